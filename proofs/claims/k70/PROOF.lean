import PyProof.Rows.All
import Wide.All
import OpenK.AllK
import Wide.FinOn
import PyProof.P3Statements
import PyProof.ReprReads
import PyProof.ReprLen
import KE.SortKeyed
import HandS.ForMost
import HandS.TupAny
import HandS.Flow
import HandS.Style
import HandS.Deep
import HandS.Conv
import HandS.Zip
import HandS.IsInst
import HandS.WideBits
import HandS.Comp
import HandS.Iter
import HandS.List
import HandS.Base
import HandS.Call
import HandS.Ends
import HandS.More
import HandS.Words
import HandS.WordsExc
import HandS.Defaults
import HandS.CallLocal
import PyProof.ReprRoads
import PyProof.P3In
import KE.SortData
import KE.SortKeyHeap
import HandS.SortInts
import PyProof.EqAt
import PyProof.EqKinds
import PyProof.TupleCall
import PyProof.DictCompW
import PyProof.DictFindH
import KE.KEqDict
import HandS.Dict
import HandS.DictComp
import HandS.TupSets
import HandS.SetFor
import PyProof.EnumMake
import PyProof.Draws
import HandS.Zip0
import HandS.SortKw
import KE.KIndexOf
import PyProof.Rows.RuleIs
import HandS.Exc
import HandS.ExcOwn
import HandS.ExcIs
import HandS.Small
import HandS.HeadEnd
import HandS.HeadHook1
import HandS.HeadHook2
import HandS.Head2
import KE.DatumOrd
import KE.KStateDown
import HandS.Head0
import HandS.Head1
import PySem.Challenge.RW_roadsbyturns_k70_whole_orders_made_or_wi
set_option Elab.async false
set_option linter.all false
section
set_option autoImplicit false
/-! MSem: what Python's constructs do, as plain functions on data and slots (no heap, no machine). -/
namespace Mo
open PySem

/-- what a slot holds: data; a list, a dict that the running def owns; a def of the module -/
inductive SV where
  | dat (d : PyData)
  | own (xs : List PyData)
  | dI (kvs : List (Int × PyData))
  | dP (kvs : List (List Int × PyData))
  | dL (kvs : List (Int × List PyData))
  | fnv (x : Str)
  | scr (ns : List Int)
abbrev En := List (Option SV)
structure Exn where
  cls : Str
  val : Option PyData
inductive Out (α : Type) where
  | stuck
  | ok (a : α) (ρ : En)
  | exc (x : Exn) (ρ : En)
def Out.bind {α β : Type} (o : Out α) (k : α → En → Out β) : Out β :=
  match o with
  | .stuck => .stuck
  | .ok a ρ => k a ρ
  | .exc x ρ => .exc x ρ
@[simp] theorem Out.bind_ok {α β : Type} (a : α) (ρ : En) (k : α → En → Out β) : (Out.ok a ρ).bind k = k a ρ := rfl
@[simp] theorem Out.bind_stuck {α β : Type} (k : α → En → Out β) : (Out.stuck : Out α).bind k = .stuck := rfl
@[simp] theorem Out.bind_exc {α β : Type} (x : Exn) (ρ : En) (k : α → En → Out β) : (Out.exc x ρ : Out α).bind k = .exc x ρ := rfl
theorem Out.bind_assoc {α β γ : Type} (o : Out α) (k : α → En → Out β) (l : β → En → Out γ) : (o.bind k).bind l = o.bind fun a ρ => (k a ρ).bind l := by cases o <;> rfl
def lift {α : Type} (o : Option α) (ρ : En) : Out α := match o with | some a => .ok a ρ | none => .stuck
@[simp] theorem lift_some {α : Type} (a : α) (ρ : En) : lift (some a) ρ = .ok a ρ := rfl
@[simp] theorem lift_none {α : Type} (ρ : En) : lift (none : Option α) ρ = .stuck := rfl

abbrev Ex := En → Out PyData
abbrev Ls := En → Out (List PyData)
abbrev Ts := En → Out Bool
abbrev Rs := En → Out SV
abbrev As := En → Out (List SV)

/-! ### atoms -/
def cK (d : PyData) : Ex := fun ρ => .ok d ρ
def cV (i : Nat) : Ex := fun ρ => match ρ[i]? with | some (some (.dat d)) => .ok d ρ | _ => .stuck
/-- an own list's name read as a value: the list is not changed from here on -/
def cFz (i : Nat) : Ex := fun ρ => match ρ[i]? with | some (some (.own xs)) => .ok (.list xs) (ρ.set i (some (.dat (.list xs)))) | _ => .stuck
/-- an own list, looked at; the script -/
def lV (i : Nat) : Ls := fun ρ => match ρ[i]? with | some (some (.own xs)) => .ok xs ρ | _ => .stuck
def lS (i : Nat) : Ls := fun ρ => match ρ[i]? with | some (some (.scr ns)) => .ok (ns.map .int) ρ | _ => .stuck
def seqOf : PyData → Option (List PyData)
  | .list xs => some xs
  | .tuple xs => some xs
  | _ => none
def lD (f : Ex) : Ls := fun ρ => (f ρ).bind fun d ρ => lift (seqOf d) ρ
def lstOf : PyData → Option (List PyData)
  | .list xs => some xs
  | _ => none
/-- of lists alone -/
def lDl (f : Ex) : Ls := fun ρ => (f ρ).bind fun d ρ => lift (lstOf d) ρ
def cN (n : Ls) : Ex := fun ρ => (n ρ).bind fun xs ρ => .ok (.list xs) ρ

/-! ### operators on data -/
abbrev Op2 := PyData → PyData → Option PyData
def cBin (op : Op2) (f g : Ex) : Ex := fun ρ => (f ρ).bind fun a ρ => (g ρ).bind fun b ρ => lift (op a b) ρ
def cUn (op : PyData → Option PyData) (f : Ex) : Ex := fun ρ => (f ρ).bind fun a ρ => lift (op a) ρ
def maxSeq : Nat := 16777216
def opAdd : Op2
  | .int i, .int j => some (.int (i + j))
  | .tuple xs, .tuple ys => if xs.length + ys.length ≤ maxSeq then some (.tuple (xs ++ ys)) else none
  | _, _ => none
def opSub : Op2
  | .int i, .int j => some (.int (i - j))
  | _, _ => none
def mulOk (i j : Int) : Bool := (decide (-(2 ^ 64) < i) && decide (i < 2 ^ 64)) || (decide (-(2 ^ 64) < j) && decide (j < 2 ^ 64))
def opMul : Op2
  | .int i, .int j => if mulOk i j then some (.int (i * j)) else none
  | _, _ => none
def opDiv : Op2
  | .int i, .int j => if 0 < j ∧ j < 1073741824 then some (.int (i / j)) else none
  | _, _ => none
def opMod : Op2
  | .int i, .int j => if 0 < j then some (.int (i % j)) else none
  | _, _ => none
def opPow : Op2
  | .int i, .int j => if 0 ≤ j ∧ j ≤ 1000000 ∧ i.natAbs < 2 ^ 64 then some (.int (i ^ j.toNat)) else none
  | _, _ => none
def isFlat : PyData → Bool
  | .none => true
  | .bool _ => true
  | .int _ => true
  | .str _ => true
  | _ => false
/-- data that == takes: no dicts, one of both not too deep -/
def eqOk (a b : PyData) : Bool := a.canLay0 && b.canLay0 && decide (min a.depth b.depth ≤ 64)
def strsOf : PyData → PyData → Option (Str × Str)
  | .str x, .str y => some (x, y)
  | _, _ => none
def opEq : Op2 := fun a b => match strsOf a b with
  | some (x, y) => some (.bool (decide (x = y)))
  | none => if eqOk a b then some (.bool (PyData.eqv a b)) else none
def opNe : Op2 := fun a b => match strsOf a b with
  | some (x, y) => some (.bool (!decide (x = y)))
  | none => if eqOk a b then some (.bool (!PyData.eqv a b)) else none
def intsOf : List PyData → Option (List Int)
  | [] => some []
  | .int i :: r => (intsOf r).map (i :: ·)
  | _ :: _ => none
def lexI : List Int → List Int → Bool
  | [], [] => false
  | [], _ :: _ => true
  | _ :: _, [] => false
  | x :: xs, y :: ys => if x = y then lexI xs ys else decide (x < y)
def opLt : Op2
  | .int i, .int j => some (.bool (decide (i < j)))
  | .tuple xs, .tuple ys => match intsOf xs, intsOf ys with
    | some ns, some ms => some (.bool (lexI ns ms))
    | _, _ => none
  | _, _ => none
def opLe : Op2
  | .int i, .int j => some (.bool (decide (i ≤ j)))
  | _, _ => none
def opGt : Op2
  | .int i, .int j => some (.bool (decide (j < i)))
  | _, _ => none
def opGe : Op2
  | .int i, .int j => some (.bool (decide (j ≤ i)))
  | _, _ => none
def opNeg : PyData → Option PyData
  | .int i => some (.int (-i))
  | _ => none
def boolOf : PyData → Option Bool
  | .bool b => some b
  | _ => none
/-- is None -/
def isNone : PyData → Bool
  | .none => true
  | _ => false
def opIsN (neg : Bool) : PyData → Option PyData := fun a => some (.bool (isNone a != neg))
/-- is, of bools -/
def opIsB (neg : Bool) : Op2
  | .bool a, .bool b => some (.bool ((a == b) != neg))
  | _, _ => none

/-! ### and, or, not, if .. else -/
def cAnd (f g : Ex) : Ex := fun ρ => (f ρ).bind fun a ρ => (lift (boolOf a) ρ).bind fun b ρ => if b = true then g ρ else .ok (.bool false) ρ
def cOr (f g : Ex) : Ex := fun ρ => (f ρ).bind fun a ρ => (lift (boolOf a) ρ).bind fun b ρ => if b = true then .ok (.bool true) ρ else g ρ
def cNot (f : Ex) : Ex := fun ρ => (f ρ).bind fun a ρ => (lift (boolOf a) ρ).bind fun b ρ => .ok (.bool (!b)) ρ
def tD (f : Ex) : Ts := fun ρ => (f ρ).bind fun a ρ => lift (boolOf a) ρ
def tAnd (s t : Ts) : Ts := fun ρ => (s ρ).bind fun b ρ => if b = true then t ρ else .ok false ρ
def tOr (s t : Ts) : Ts := fun ρ => (s ρ).bind fun b ρ => if b = true then .ok true ρ else t ρ
def tNot (t : Ts) : Ts := fun ρ => (t ρ).bind fun b ρ => .ok (!b) ρ
def cIf (t : Ts) (f g : Ex) : Ex := fun ρ => (t ρ).bind fun b ρ => if b = true then f ρ else g ρ
/-- a < b <= c -/
def cChain (o p : Op2) (f g h : Ex) : Ex := fun ρ => (f ρ).bind fun a ρ => (g ρ).bind fun b ρ => (lift (o a b) ρ).bind fun x ρ => (lift (boolOf x) ρ).bind fun k ρ =>
  if k = true then (h ρ).bind fun c ρ => lift (p b c) ρ else .ok (.bool false) ρ

/-! ### arguments, displays -/
def aNil : As := fun ρ => .ok [] ρ
def aD (f : Ex) (r : As) : As := fun ρ => (f ρ).bind fun d ρ => (r ρ).bind fun s ρ => .ok (.dat d :: s) ρ
def aF (x : Str) (r : As) : As := fun ρ => (r ρ).bind fun s ρ => .ok (.fnv x :: s) ρ
/-- displays -/
def dNil : Ls := fun ρ => .ok [] ρ
def dCons (f : Ex) (r : Ls) : Ls := fun ρ => (f ρ).bind fun d ρ => (r ρ).bind fun s ρ => .ok (d :: s) ρ
def lenOk (xs : List PyData) : Bool := decide (xs.length ≤ maxSeq)
def cTup (r : Ls) : Ex := fun ρ => (r ρ).bind fun ds ρ => if lenOk ds then .ok (.tuple ds) ρ else .stuck
def nLst (r : Ls) : Ls := fun ρ => (r ρ).bind fun ds ρ => if lenOk ds then .ok ds ρ else .stuck

/-! ### subscripts, slices -/
def ixAt (n : Nat) (i : Int) : Option Nat := if 0 ≤ i then (if i < n then some i.toNat else none) else if -(n : Int) ≤ i then some (i + n).toNat else none
def itemAt (xs : List PyData) (i : Int) : Option PyData := (ixAt xs.length i).bind fun j => xs[j]?
def opIx : Op2
  | .list xs, .int i => itemAt xs i
  | .tuple xs, .int i => itemAt xs i
  | _, _ => none
/-- own[g] -/
def cIxO (i : Nat) (g : Ex) : Ex := fun ρ => (lV i ρ).bind fun _ ρ => (g ρ).bind fun k ρ => (lV i ρ).bind fun xs ρ => match k with
  | .int z => lift (itemAt xs z) ρ
  | _ => .stuck
/-- script[g] -/
def cIxS (i : Nat) (g : Ex) : Ex := fun ρ => (lS i ρ).bind fun _ ρ => (g ρ).bind fun k ρ => (lS i ρ).bind fun xs ρ => match k with
  | .int z => lift (itemAt xs z) ρ
  | _ => .stuck
def sIx (n d : Nat) : Option Int → Nat
  | none => d
  | some v => if v < 0 then (v + (n : Int)).toNat else min v.toNat n
def cut (xs : List PyData) (lo hi : Option Int) : List PyData := (xs.drop (sIx xs.length 0 lo)).take (sIx xs.length xs.length hi - sIx xs.length 0 lo)
abbrev Os := En → Out (Option Int)
def oNone : Os := fun ρ => .ok none ρ
def oSome (f : Ex) : Os := fun ρ => (f ρ).bind fun d ρ => match d with | .int i => .ok (some i) ρ | _ => .stuck
def cSl (f : Ex) (lo hi : Os) : Ex := fun ρ => (f ρ).bind fun d ρ => (lo ρ).bind fun a ρ => (hi ρ).bind fun b ρ => match d with
  | .list xs => .ok (.list (cut xs a b)) ρ
  | .tuple xs => .ok (.tuple (cut xs a b)) ρ
  | _ => .stuck
/-- list[::-1] -/
def nRev (f : Ex) : Ls := fun ρ => (f ρ).bind fun d ρ => match d with | .list xs => .ok xs.reverse ρ | _ => .stuck

def big63 (i : Int) : Bool := decide (-(2 ^ 63) ≤ i) && decide (i < 2 ^ 63)

/-! ### built-in functions -/
def cLen (l : Ls) : Ex := fun ρ => (l ρ).bind fun xs ρ => .ok (.int xs.length) ρ
def cTuple (l : Ls) : Ex := fun ρ => (l ρ).bind fun xs ρ => .ok (.tuple xs) ρ
def nList (l : Ls) : Ls := l
/-- list + list, list * n -/
def nCat (f g : Ex) : Ls := fun ρ => (f ρ).bind fun a ρ => (g ρ).bind fun b ρ => match a, b with
  | .list xs, .list ys => if xs.length + ys.length ≤ maxSeq then .ok (xs ++ ys) ρ else .stuck
  | _, _ => .stuck
def nRep (l : Ls) (g : Ex) : Ls := fun ρ => (l ρ).bind fun xs ρ => (g ρ).bind fun b ρ => match b with
  | .int n => if big63 n && decide (xs.length * n.toNat ≤ maxSeq) then .ok (List.replicate n.toNat xs).flatten ρ else .stuck
  | _ => .stuck
def rng (i j : Int) : List PyData := (List.range (j - i).toNat).map fun k => .int (i + (k : Nat))
def big62 (i : Int) : Bool := decide (-(2 ^ 62) ≤ i) && decide (i < 2 ^ 62)
/-- range, as what is walked -/
def iRg1 (f : Ex) : Ls := fun ρ => (f ρ).bind fun d ρ => match d with | .int j => if big62 j then .ok (rng 0 j) ρ else .stuck | _ => .stuck
def iRg2 (f g : Ex) : Ls := fun ρ => (f ρ).bind fun c ρ => (g ρ).bind fun d ρ => match c, d with | .int i, .int j => if big62 i && big62 j then .ok (rng i j) ρ else .stuck | _, _ => .stuck
/-- list(range(n)) -/
def nRg1 (f : Ex) : Ls := fun ρ => (f ρ).bind fun d ρ => match d with | .int j => if big62 j && decide (j.toNat ≤ maxSeq) then .ok (rng 0 j) ρ else .stuck | _ => .stuck
def nRg2 (f g : Ex) : Ls := fun ρ => (f ρ).bind fun c ρ => (g ρ).bind fun d ρ => match c, d with | .int i, .int j => if big62 i && big62 j && decide ((j - i).toNat ≤ maxSeq) then .ok (rng i j) ρ else .stuck | _, _ => .stuck
def zipT : List PyData → List PyData → List PyData
  | x :: xs, y :: ys => .tuple [x, y] :: zipT xs ys
  | _, _ => []
def iZip (k l : Ls) : Ls := fun ρ => (k ρ).bind fun xs ρ => (l ρ).bind fun ys ρ => .ok (zipT xs ys) ρ
/-- of two lists, or of two tuples -/
def iZipD (f g : Ex) : Ls := fun ρ => (f ρ).bind fun a ρ => (g ρ).bind fun b ρ => match a, b with
  | .list xs, .list ys => .ok (zipT xs ys) ρ
  | .tuple xs, .tuple ys => .ok (zipT xs ys) ρ
  | _, _ => .stuck
def enumT (xs : List PyData) : List PyData := zipT (rng 0 xs.length) xs
def iEnum (k : Ls) : Ls := fun ρ => (k ρ).bind fun xs ρ => .ok (enumT xs) ρ
def boolsOf : List PyData → Option (List Bool)
  | [] => some []
  | .bool b :: r => (boolsOf r).map (b :: ·)
  | _ :: _ => none
def cAll (l : Ls) : Ex := fun ρ => (l ρ).bind fun xs ρ => lift ((boolsOf xs).map fun bs => .bool (bs.all id)) ρ
def cAny (l : Ls) : Ex := fun ρ => (l ρ).bind fun xs ρ => lift ((boolsOf xs).map fun bs => .bool (bs.any id)) ρ
def sumOf (xs : List PyData) : Option PyData := (intsOf xs).map fun ns => .int ns.sum
def leastI : Int → List Int → Int
  | m, [] => m
  | m, x :: r => leastI (if x < m then x else m) r
def greatI : Int → List Int → Int
  | m, [] => m
  | m, x :: r => greatI (if m < x then x else m) r
def minOf (xs : List PyData) : Option PyData := (intsOf xs).bind fun ns => match ns with | [] => none | m :: r => some (.int (leastI m r))
def maxOf (xs : List PyData) : Option PyData := (intsOf xs).bind fun ns => match ns with | [] => none | m :: r => some (.int (greatI m r))
def cSum (l : Ls) : Ex := fun ρ => (l ρ).bind fun xs ρ => lift (sumOf xs) ρ
def cMin (l : Ls) : Ex := fun ρ => (l ρ).bind fun xs ρ => lift (minOf xs) ρ
def cMax (l : Ls) : Ex := fun ρ => (l ρ).bind fun xs ρ => lift (maxOf xs) ρ
def opMin2 : Op2
  | .int i, .int j => some (.int (if j < i then j else i))
  | _, _ => none
def opMax2 : Op2
  | .int i, .int j => some (.int (if i < j then j else i))
  | _, _ => none
def opDivmod : Op2
  | .int i, .int j => if 0 < j ∧ j < 1073741824 then some (.tuple [.int (i / j), .int (i % j)]) else none
  | _, _ => none
def opAbs : PyData → Option PyData
  | .int i => some (.int (i.natAbs : Int))
  | _ => none
def opInt : PyData → Option PyData
  | .int i => some (.int i)
  | _ => none
/-- data that repr takes -/
def reprOk (d : PyData) : Bool := d.layable0 && d.showable && d.intsShort 13
def opRepr : PyData → Option PyData := fun d => if (seqOf d).isSome && reprOk d then some (.str d.shown) else none
def cRepr (f : Ex) : Ex := cUn opRepr f
inductive Ty where
  | int | bool | str | tuple | list
  deriving DecidableEq
def isTy : Ty → PyData → Bool
  | .int, .int _ => true
  | .int, .bool _ => true
  | .bool, .bool _ => true
  | .str, .str _ => true
  | .tuple, .tuple _ => true
  | .list, .list _ => true
  | _, _ => false
def opIsi (ts : List Ty) : PyData → Option PyData := fun d => some (.bool (ts.any fun t => isTy t d))
/-- x in xs -/
def inL (d : PyData) (xs : List PyData) : Option Bool := if d.canLay0 && xs.all (·.canLay0) && decide (d.depth ≤ 32) then some (xs.any fun x => PyData.eqv x d) else none
def cIn (neg : Bool) (f : Ex) (l : Ls) : Ex := fun ρ => (f ρ).bind fun d ρ => (l ρ).bind fun xs ρ => lift ((inL d xs).map fun b => .bool (b != neg)) ρ
/-- xs.index(d), d is there -/
def idxOf (d : PyData) : List PyData → Nat → Option Nat
  | [], _ => none
  | x :: r, k => if PyData.eqv x d then some k else idxOf d r (k + 1)
def cIndex (l : Ls) (f : Ex) : Ex := fun ρ => (l ρ).bind fun xs ρ => (f ρ).bind fun d ρ => if isFlat d && xs.all isFlat then lift ((idxOf d xs 0).map fun k => .int (k : Nat)) ρ else .stuck
/-- sorted: data that compare place by place -/
def alikeL (ds : List PyData) : Bool := ds.all fun d => ds.all fun e => W.alike d e
def sortableL (ds : List PyData) : Bool := (ds.all fun d => match d with | .tuple (_ :: _) => true | _ => false) || ds.all fun d => match d with | .none => false | .tuple _ => false | _ => true
def sortOk (ds : List PyData) : Bool := alikeL ds && sortableL ds && decide (ds.length ≤ maxSeq) && ds.all fun d => decide (d.depth ≤ 32)
def sortD (ds : List PyData) : List PyData := ds.mergeSort (W.dataLe false id)
/-- xs.index(d), a tuple of ints -/
def cIndexT (f g : Ex) : Ex := fun ρ => (f ρ).bind fun t ρ => (g ρ).bind fun d ρ => match t, d with
  | .tuple xs, .int k => (match intsOf xs with
    | some ns => if k ∈ ns then .ok (.int (ns.idxOf k : Nat)) ρ else .stuck
    | none => .stuck)
  | _, _ => .stuck
def nSorted (l : Ls) : Ls := fun ρ => (l ρ).bind fun xs ρ => if sortOk xs then .ok (sortD xs) ρ else .stuck
/-- set(xs) of tuples of ints -/
def tupsOf : List PyData → Option (List (List Int))
  | [] => some []
  | .tuple xs :: r => (intsOf xs).bind fun ns => (tupsOf r).map (ns :: ·)
  | _ :: _ => none
def dedup {α : Type} [DecidableEq α] : List α → List α
  | [] => []
  | x :: r => if x ∈ r then dedup r else x :: dedup r
def tupI (ns : List Int) : PyData := .tuple (ns.map .int)
def leT (a b : List Int) : Bool := !lexI b a
/-- tuples of one length of ints in [0, 64), few unlike ones -/
def setOk (nss : List (List Int)) : Bool := (nss.all fun ns => decide (1 ≤ ns.length) && ns.all fun n => decide (0 ≤ n) && decide (n < 64)) && (nss.all fun ns => nss.all fun ms => decide (ns.length = ms.length)) && decide ((dedup nss).length ≤ 62)
def sortT (nss : List (List Int)) : List (List Int) := (dedup nss).mergeSort leT
/-- sorted(set(xs)) -/
def nSortSet (l : Ls) : Ls := fun ρ => (l ρ).bind fun xs ρ => match tupsOf xs with
  | some nss => if setOk nss then .ok ((sortT nss).map tupI) ρ else .stuck
  | none => .stuck
/-- len(set(xs)), ints -/
def metI (ns : List Int) : List Int := ns.foldl (fun σ k => if σ.any (· == k) then σ else σ ++ [k]) []
def cLenSetI (l : Ls) : Ex := fun ρ => (l ρ).bind fun xs ρ => match intsOf xs with
  | some ns => if ns.length ≤ 4000 then .ok (.int (metI ns).length) ρ else .stuck
  | none => .stuck

/-! ### calls -/
inductive Res where
  | stuck
  | ret (d : PyData) (io : List PyData)
  | exc (x : Exn) (io : List PyData)
abbrev Fs := List SV → Res
def cCall (n : Nat) (f : Fs) (as : As) : Ex := fun ρ => (as ρ).bind fun s ρ => if s.length = n then (match f s with
  | .ret d _ => .ok d ρ
  | .exc x _ => .exc x ρ
  | .stuck => .stuck) else .stuck
/-- a call of a def that gives a new list -/
def nCall (n : Nat) (f : Fs) (as : As) : Ls := fun ρ => (as ρ).bind fun s ρ => if s.length = n then (match f s with
  | .ret (.list xs) _ => .ok xs ρ
  | _ => .stuck) else .stuck
/-- f(new, ..): f changes the new list, which is then dropped -/
def cCallQ (n : Nat) (f : Fs) (l : Ls) (as : As) : Ex := fun ρ => (l ρ).bind fun xs ρ => (as ρ).bind fun s ρ => if s.length = n then (match f (.own xs :: s) with
  | .ret d _ => .ok d ρ
  | _ => .stuck) else .stuck
/-- a call of what a slot holds -/
def cCallV (n : Nat) (i : Nat) (T : Str → Option Fs) (as : As) : Ex := fun ρ => match ρ[i]? with
  | some (some (.fnv x)) => (match T x with | some f => cCall n f as ρ | none => .stuck)
  | _ => .stuck
/-- f(own, ..): f changes the own list -/
def cCallP (n : Nat) (f : Fs) (i : Nat) (as : As) : Ex := fun ρ => (lV i ρ).bind fun _ ρ => (as ρ).bind fun s ρ => (lV i ρ).bind fun xs ρ => if s.length = n then (match f (.own xs :: s) with
  | .ret d ys => .ok d (ρ.set i (some (.own ys)))
  | _ => .stuck) else .stuck

/-- sorted(xs, key=f): f gives ints -/
def keysOf (f : Fs) : List PyData → Option (List Int)
  | [] => some []
  | x :: r => match f [.dat x] with
    | .ret (.int k) _ => (keysOf f r).map (k :: ·)
    | _ => none
def sortI (xs : List PyData) (ks : List Int) : List PyData := ((xs.zip ks).mergeSort (W.dataLe false fun p => .int p.2)).map (·.1)
def nSortK (l : Ls) (f : Fs) : Ls := fun ρ => (l ρ).bind fun xs ρ => match keysOf f xs with
  | some ks => if xs.length ≤ maxSeq then .ok (sortI xs ks) ρ else .stuck
  | none => .stuck

/-! ### targets, comprehensions -/
abbrev Tg := PyData → En → Out Unit
def gN (i : Nat) : Tg := fun d ρ => .ok () (ρ.set i (some (.dat d)))
def gAll : List Tg → List PyData → En → Out Unit
  | [], [] => fun ρ => .ok () ρ
  | g :: gs, d :: ds => fun ρ => (g d ρ).bind fun _ ρ => gAll gs ds ρ
  | _, _ => fun _ => .stuck
def gTup (gs : List Tg) : Tg := fun d ρ => match d with | .tuple ds => if ds.length = gs.length then gAll gs ds ρ else .stuck | _ => .stuck
/-- own[f] = .. -/
def gPut (i : Nat) (f : Ex) : Tg := fun d ρ => (lV i ρ).bind fun _ ρ => (f ρ).bind fun k ρ => (lV i ρ).bind fun xs ρ => match k with
  | .int z => (match ixAt xs.length z with | some j => .ok () (ρ.set i (some (.own (xs.set j d)))) | none => .stuck)
  | _ => .stuck
def wipeE (ρ : En) : List Nat → En
  | [] => ρ
  | v :: vs => (wipeE ρ vs).set v none
def backE (ρ0 ρ : En) : List Nat → En
  | [] => ρ
  | v :: vs => match ρ0[v]? with
    | some (some (.dat d)) => (backE ρ0 ρ vs).set v (some (.dat d))
    | _ => backE ρ0 ρ vs
def lcGo (g : Tg) (t : Ts) (e : Ex) (vs : List Nat) : List PyData → List PyData → Ls
  | [], acc => fun ρ => .ok acc ρ
  | x :: xs, acc => fun ρ => (g x ρ).bind fun _ ρ => (t ρ).bind fun b ρ => if b = true then (e ρ).bind fun d ρ => if acc.length < maxSeq then lcGo g t e vs xs (acc ++ [d]) (wipeE ρ vs) else .stuck else lcGo g t e vs xs acc (wipeE ρ vs)
def nLc (it : Ls) (g : Tg) (t : Ts) (e : Ex) (vs : List Nat) : Ls := fun ρ => (it ρ).bind fun xs ρ => (lcGo g t e vs xs [] (wipeE ρ vs)).bind fun ds ρ2 => .ok ds (backE ρ ρ2 vs)
def tYes : Ts := fun ρ => .ok true ρ

/-! ### statements -/
inductive Fl where
  | nx | brk | ct
  | ret (d : PyData)
  | rtn (xs : List PyData)
abbrev Ss := En → Out Fl
def sNext : Ss := fun ρ => .ok .nx ρ
def sSeq (s t : Ss) : Ss := fun ρ => (s ρ).bind fun f ρ => match f with | .nx => t ρ | f => .ok f ρ
def rD (f : Ex) : Rs := fun ρ => (f ρ).bind fun d ρ => .ok (.dat d) ρ
def rN (n : Ls) : Rs := fun ρ => (n ρ).bind fun xs ρ => .ok (.own xs) ρ
def sSet (i : Nat) (r : Rs) : Ss := fun ρ => (r ρ).bind fun v ρ => .ok .nx (ρ.set i (some v))
def sPar (i j : Nat) (r s : Rs) : Ss := fun ρ => (r ρ).bind fun v ρ => (s ρ).bind fun w ρ => .ok .nx ((ρ.set i (some v)).set j (some w))
def sPar3 (i j k : Nat) (r s t : Rs) : Ss := fun ρ => (r ρ).bind fun u ρ => (s ρ).bind fun v ρ => (t ρ).bind fun w ρ => .ok .nx (((ρ.set i (some u)).set j (some v)).set k (some w))
def sAsg (f : Ex) (g : Tg) : Ss := fun ρ => (f ρ).bind fun d ρ => (g d ρ).bind fun _ ρ => .ok .nx ρ
def sDrop (f : Ex) : Ss := fun ρ => (f ρ).bind fun _ ρ => .ok .nx ρ
def sRet (f : Ex) : Ss := fun ρ => (f ρ).bind fun d ρ => .ok (.ret d) ρ
def sIf (t : Ts) (a b : Ss) : Ss := fun ρ => (t ρ).bind fun c ρ => if c = true then a ρ else b ρ
/-- return of a new list -/
def sRetL (n : Ls) : Ss := fun ρ => (n ρ).bind fun xs ρ => .ok (.rtn xs) ρ
def sRetN : Ss := fun ρ => .ok (.ret .none) ρ
def sBrk : Ss := fun ρ => .ok .brk ρ
def sCt : Ss := fun ρ => .ok .ct ρ
def sStuck : Ss := fun _ => .stuck
def sApp (i : Nat) (f : Ex) : Ss := fun ρ => (lV i ρ).bind fun _ ρ => (f ρ).bind fun d ρ => (lV i ρ).bind fun xs ρ =>
  if xs.length < maxSeq then .ok .nx (ρ.set i (some (.own (xs ++ [d])))) else .stuck
def sExt (i : Nat) (f : Ex) : Ss := fun ρ => (lV i ρ).bind fun _ ρ => (f ρ).bind fun d ρ => (lV i ρ).bind fun xs ρ => match d with
  | .list ys => if xs.length + ys.length ≤ maxSeq then .ok .nx (ρ.set i (some (.own (xs ++ ys)))) else .stuck
  | _ => .stuck
/-- own.pop(f), as a value -/
def cPopAt (i : Nat) (f : Ex) : Ex := fun ρ => (lV i ρ).bind fun _ ρ => (f ρ).bind fun k ρ => (lV i ρ).bind fun xs ρ => match k with
  | .int z => if big63 z then (match ixAt xs.length z with
    | some j => (match xs[j]? with | some d => .ok d (ρ.set i (some (.own (xs.eraseIdx j)))) | none => .stuck)
    | none => .stuck) else .stuck
  | _ => .stuck
/-- name += e (ints) -/
def sAug (i : Nat) (op : Op2) (f : Ex) : Ss := fun ρ => match ρ[i]? with
  | some (some (.dat a)) => (f ρ).bind fun b ρ => (lift (op a b) ρ).bind fun c ρ => .ok .nx (ρ.set i (some (.dat c)))
  | _ => .stuck
def forGo (g : Tg) (b : Ss) : List PyData → Ss
  | [] => fun ρ => .ok .nx ρ
  | x :: xs => fun ρ => (g x ρ).bind fun _ ρ => (b ρ).bind fun f ρ => match f with
    | .nx => forGo g b xs ρ
    | .ct => forGo g b xs ρ
    | .brk => .ok .nx ρ
    | .ret d => .ok (.ret d) ρ
    | .rtn d => .ok (.rtn d) ρ
def sFor (it : Ls) (g : Tg) (b : Ss) : Ss := fun ρ => (it ρ).bind fun xs ρ => forGo g b xs ρ
def whileGo (t : Ts) (b : Ss) : Nat → Ss
  | 0 => fun _ => .stuck
  | n + 1 => fun ρ => (t ρ).bind fun c ρ => if c = true then (b ρ).bind fun f ρ => match f with
    | .nx => whileGo t b n ρ
    | .ct => whileGo t b n ρ
    | .brk => .ok .nx ρ
    | .ret d => .ok (.ret d) ρ
    | .rtn d => .ok (.rtn d) ρ else .ok .nx ρ
def sWhile (n : Nat) (t : Ts) (b : Ss) : Ss := whileGo t b n
/-- code that is not come to -/
def sAugI (i : Nat) (neg : Bool) (f : Ex) : Ss := sAug i (if neg then opSub else fun a b => match a, b with | .int i, .int j => some (.int (i + j)) | _, _ => none) f
def sRaise (x : Str) (as : As) : Ss := fun ρ => (as ρ).bind fun s ρ => match s with
  | [] => .exc ⟨x, none⟩ ρ
  | [.dat d] => .exc ⟨x, some d⟩ ρ
  | _ => .stuck

/-! ### dicts -/
def look {κ β : Type} [DecidableEq κ] (k : κ) (kvs : List (κ × β)) : Option β := (kvs.find? fun kv => decide (kv.1 = k)).map (·.2)
def putKV {κ β : Type} [DecidableEq κ] (k : κ) (v : β) (kvs : List (κ × β)) : List (κ × β) :=
  if (kvs.any fun kv => decide (kv.1 = k)) = true then kvs.map (fun kv => if kv.1 = k then (kv.1, v) else kv) else kvs ++ [(k, v)]
def keyP : PyData → Option (List Int)
  | .tuple xs => intsOf xs
  | _ => none
/-- {k: v for g in it if t}, the keys tuples of ints; it is not changed any more -/
def dcpGo (g : Tg) (t : Ts) (k v : Ex) (vs : List Nat) : List PyData → List (List Int × PyData) → En → Out (List (List Int × PyData))
  | [], acc => fun ρ => .ok acc ρ
  | x :: xs, acc => fun ρ => (g x ρ).bind fun _ ρ => (t ρ).bind fun b ρ => if b = true then (k ρ).bind fun kd ρ => (v ρ).bind fun vd ρ => match keyP kd with
    | some ns => if acc.length < maxSeq then dcpGo g t k v vs xs (putKV ns vd acc) (wipeE ρ vs) else .stuck
    | none => .stuck else dcpGo g t k v vs xs acc (wipeE ρ vs)
def rDcP (it : Ls) (g : Tg) (t : Ts) (k v : Ex) (vs : List Nat) : Rs := fun ρ => (it ρ).bind fun xs ρ => (dcpGo g t k v vs xs [] (wipeE ρ vs)).bind fun kvs ρ2 => .ok (.dP kvs) (backE ρ ρ2 vs)
/-- key in such a dict; its keys -/
def cInP (neg : Bool) (f : Ex) (i : Nat) : Ex := fun ρ => (f ρ).bind fun d ρ => match keyP d, ρ[i]? with
  | some k, some (some (.dP kvs)) => .ok (.bool ((look k kvs).isSome != neg)) ρ
  | _, _ => .stuck
def iKeysP (i : Nat) : Ls := fun ρ => match ρ[i]? with
  | some (some (.dP kvs)) => .ok (kvs.map fun kv => tupI kv.1) ρ
  | _ => .stuck
/-- {k: [..] for g in it}: ints, each to a new list; no key twice -/
def dclGo (g : Tg) (k : Ex) (v : Ls) (vs : List Nat) : List PyData → List (Int × List PyData) → En → Out (List (Int × List PyData))
  | [], acc => fun ρ => .ok acc ρ
  | x :: xs, acc => fun ρ => (g x ρ).bind fun _ ρ => (k ρ).bind fun kd ρ => (v ρ).bind fun ds ρ => match kd with
    | .int z => if acc.length < maxSeq ∧ (look z acc).isSome = false then dclGo g k v vs xs (acc ++ [(z, ds)]) (wipeE ρ vs) else .stuck
    | _ => .stuck
def rDcL (it : Ls) (g : Tg) (k : Ex) (v : Ls) (vs : List Nat) : Rs := fun ρ => (it ρ).bind fun xs ρ => (dclGo g k v vs xs [] (wipeE ρ vs)).bind fun kvs ρ2 => .ok (.dL kvs) (backE ρ ρ2 vs)
def setL (k : Int) (xs : List PyData) : List (Int × List PyData) → List (Int × List PyData)
  | [] => []
  | p :: r => if p.1 = k then (p.1, xs) :: r else p :: setL k xs r
/-- d[f].append(g) -/
def sDLApp (i : Nat) (f g : Ex) : Ss := fun ρ => match ρ[i]? with
  | some (some (.dL _)) => (f ρ).bind fun kd ρ => match kd, ρ[i]? with
    | .int k, some (some (.dL kvs)) => if (look k kvs).isSome then (g ρ).bind fun d ρ => (match ρ[i]? with
      | some (some (.dL kvs)) => (match look k kvs with
        | some xs => if xs.length < maxSeq then .ok .nx (ρ.set i (some (.dL (setL k (xs ++ [d]) kvs)))) else .stuck
        | none => .stuck)
      | _ => .stuck) else .stuck
    | _, _ => .stuck
  | _ => .stuck
/-- its lists are not changed any more -/
def frzL (kvs : List (Int × List PyData)) : List (Int × PyData) := kvs.map fun kv => (kv.1, .list kv.2)
def frzE (i : Nat) (ρ : En) : En := match ρ[i]? with
  | some (some (.dL kvs)) => ρ.set i (some (.dI (frzL kvs)))
  | _ => ρ
/-- d[f], from here on the lists are data -/
def cGetI (i : Nat) (f : Ex) : Ex := fun ρ => match (frzE i ρ)[i]? with
  | some (some (.dI _)) => (f (frzE i ρ)).bind fun kd ρ => (match kd, ρ[i]? with
    | .int k, some (some (.dI kvs)) => lift (look k kvs) ρ
    | _, _ => .stuck)
  | _ => .stuck

/-! ### a def -/
def ownAt (ρ : En) (i : Nat) : Option (List PyData) := match ρ[i]? with
  | some (some (.own xs)) => some xs
  | _ => none
def bodyFin (io : Bool) (d : PyData) (ρ : En) : Res := if io then (match ownAt ρ 0 with | some xs => .ret d xs | none => .stuck) else .ret d []
def bodyExc (io : Bool) (x : Exn) (ρ : En) : Res := if io then (match ownAt ρ 0 with | some xs => .exc x xs | none => .stuck) else .exc x []
def bodyOf (b : Ss) (n : Nat) (io : Bool) (s : List SV) : Res :=
  match b (s.map some ++ List.replicate n none) with
  | .stuck => .stuck
  | .ok .nx ρ => bodyFin io .none ρ
  | .ok (.ret d) ρ => bodyFin io d ρ
  | .ok _ _ => .stuck
  | .exc x ρ => bodyExc io x ρ
/-- of a def that gives a new list -/
def bodyOfN (b : Ss) (n : Nat) (s : List SV) : Res :=
  match b (s.map some ++ List.replicate n none) with
  | .ok (.rtn xs) _ => .ret (.list xs) []
  | _ => .stuck
end Mo
end
section
set_option autoImplicit false
/-! MLex: the order of lists of ints; plain. -/
namespace Mo
open PySem
theorem lexI_irrefl : ∀ a : List Int, lexI a a = false
  | [] => rfl
  | x :: xs => by unfold lexI; rw [if_pos rfl]; exact lexI_irrefl xs
theorem lexI_total : ∀ a b : List Int, lexI a b = true ∨ lexI b a = true ∨ a = b
  | [], [] => .inr (.inr rfl)
  | [], _ :: _ => .inl rfl
  | _ :: _, [] => .inr (.inl rfl)
  | x :: xs, y :: ys => by
    unfold lexI
    by_cases h : x = y
    · subst h
      rw [if_pos rfl, if_pos rfl]
      rcases lexI_total xs ys with q | q | q
      · exact .inl q
      · exact .inr (.inl q)
      · exact .inr (.inr (by rw [q]))
    · rw [if_neg h, if_neg (fun z => h z.symm)]
      rcases Int.lt_or_gt_of_ne h with q | q
      · exact .inl (decide_eq_true q)
      · exact .inr (.inl (decide_eq_true q))
theorem lexI_trans : ∀ {a b c : List Int}, lexI a b = true → lexI b c = true → lexI a c = true
  | [], [], _, h, _ => by cases h
  | [], _ :: _, [], _, h => by cases h
  | [], _ :: _, _ :: _, _, _ => rfl
  | _ :: _, [], _, h, _ => by cases h
  | _ :: _, _ :: _, [], _, h => by cases h
  | x :: xs, y :: ys, z :: zs, h1, h2 => by
    unfold lexI at h1 h2 ⊢
    by_cases e1 : x = y
    · subst e1
      rw [if_pos rfl] at h1
      by_cases e2 : x = z
      · subst e2
        rw [if_pos rfl] at h2 ⊢
        exact lexI_trans h1 h2
      · rw [if_neg e2] at h2 ⊢
        exact h2
    · rw [if_neg e1] at h1
      have q1 := of_decide_eq_true h1
      by_cases e2 : y = z
      · subst e2
        rw [if_neg e1]
        exact h1
      · rw [if_neg e2] at h2
        have q2 := of_decide_eq_true h2
        rw [if_neg (by omega)]
        exact decide_eq_true (by omega)
theorem lexI_asymm {a b : List Int} (h : lexI a b = true) : lexI b a = false := by
  cases q : lexI b a with
  | false => rfl
  | true =>
    have := lexI_trans h q
    rw [lexI_irrefl] at this
    cases this
theorem leT_iff {a b : List Int} : leT a b = true ↔ lexI a b = true ∨ a = b := by
  unfold leT
  rw [Bool.not_eq_true']
  constructor
  · intro h
    rcases lexI_total a b with q | q | q
    · exact .inl q
    · rw [h] at q; cases q
    · exact .inr q
  · rintro (h | rfl)
    · exact lexI_asymm h
    · exact lexI_irrefl a
theorem leT_trans (a b c : List Int) (h1 : leT a b = true) (h2 : leT b c = true) : leT a c = true := by
  rw [leT_iff] at h1 h2 ⊢
  rcases h1 with h1 | rfl
  · rcases h2 with h2 | rfl
    · exact .inl (lexI_trans h1 h2)
    · exact .inl h1
  · exact h2
theorem leT_total (a b : List Int) : (leT a b || leT b a) = true := by
  rw [Bool.or_eq_true, leT_iff, leT_iff]
  rcases lexI_total a b with q | q | q
  · exact .inl (.inl q)
  · exact .inr (.inl q)
  · exact .inl (.inr q)
theorem leT_antisymm {a b : List Int} (h1 : leT a b = true) (h2 : leT b a = true) : a = b := by
  rw [leT_iff] at h1 h2
  rcases h1 with h1 | h1
  · rcases h2 with h2 | h2
    · have := lexI_asymm h1
      rw [h2] at this
      cases this
    · exact h2.symm
  · exact h1
theorem mem_dedup {α : Type} [DecidableEq α] {x : α} : ∀ {l : List α}, x ∈ dedup l ↔ x ∈ l
  | [] => Iff.rfl
  | y :: r => by
    unfold dedup
    by_cases h : y ∈ r
    · rw [if_pos h, mem_dedup, List.mem_cons]
      exact ⟨.inr, fun z => z.elim (fun e => by rw [e]; exact h) id⟩
    · rw [if_neg h, List.mem_cons, List.mem_cons, mem_dedup]
theorem nodup_dedup {α : Type} [DecidableEq α] : ∀ l : List α, (dedup l).Nodup
  | [] => List.nodup_nil
  | y :: r => by
    unfold dedup
    by_cases h : y ∈ r
    · rw [if_pos h]; exact nodup_dedup r
    · rw [if_neg h]; exact List.nodup_cons.mpr ⟨fun z => h (mem_dedup.mp z), nodup_dedup r⟩
theorem nodup_le {α : Type} [DecidableEq α] : ∀ {l m : List α}, l.Nodup → (∀ x ∈ l, x ∈ m) → l.length ≤ m.length
  | [], _, _, _ => Nat.zero_le _
  | x :: l, m, nd, h => by
    have hx := h x List.mem_cons_self
    have q := nodup_le (l := l) (m := m.erase x) (List.nodup_cons.mp nd).2 fun y hy => by
      have hne : y ≠ x := fun e => (List.nodup_cons.mp nd).1 (by rw [← e]; exact hy)
      exact (List.mem_erase_of_ne hne).mpr (h y (List.mem_cons_of_mem _ hy))
    rw [List.length_erase_of_mem hx] at q
    have := List.length_pos_of_mem hx
    rw [List.length_cons]
    omega
theorem mem_sortT {x : List Int} {nss : List (List Int)} : x ∈ sortT nss ↔ x ∈ nss := by
  unfold sortT
  rw [List.mem_mergeSort, mem_dedup]
theorem sortT_sorted (nss : List (List Int)) : (sortT nss).Pairwise fun a b => leT a b = true := List.pairwise_mergeSort leT_trans leT_total _
theorem sortT_nodup (nss : List (List Int)) : (sortT nss).Nodup := (List.mergeSort_perm _ _).nodup_iff.mpr (nodup_dedup nss)
/-- what is in order, without twins, is told by its items -/
theorem sorted_unique {l m : List (List Int)} (h1 : l.Pairwise fun a b => leT a b = true) (h2 : m.Pairwise fun a b => leT a b = true) (n1 : l.Nodup) (n2 : m.Nodup) (h : ∀ x, x ∈ l ↔ x ∈ m) : l = m :=
  List.Perm.eq_of_pairwise (le := fun a b => leT a b = true) (fun _ _ _ _ a b => leT_antisymm a b) h1 h2 ((List.perm_ext_iff_of_nodup n1 n2).mpr h)
end Mo
end
section
set_option autoImplicit false
set_option linter.all false
set_option Elab.async false
/-! MRel: how slots and data lie in the abstract heap; the judgements' readings by plain functions. -/
namespace Mo
open PySem L2

section
variable (K : PySem.W.Frag) (mg : Str → Option Value)
mutual
/-- the value v shows the data d; none of its objects is in B -/
inductive Rp (B : Addr → Prop) (H : Hp) : V → PyData → Prop
  | non : Rp B H .non .none
  | bl (b : Bool) : Rp B H (.bl b) (.bool b)
  | int (i : Int) : Rp B H (.int i) (.int i)
  | str (x : Str) : Rp B H (.str x) (.str x)
  | lst {a : Addr} {vs : List V} {ds : List PyData} : H a = some (.lst vs) → ¬ B a → RpAll B H vs ds → Rp B H (.ref a) (.list ds)
  | tup {a : Addr} {vs : List V} {ds : List PyData} : H a = some (.tup vs) → ¬ B a → RpAll B H vs ds → Rp B H (.ref a) (.tuple ds)
inductive RpAll (B : Addr → Prop) (H : Hp) : List V → List PyData → Prop
  | nil : RpAll B H [] []
  | cons {v : V} {vs : List V} {d : PyData} {ds : List PyData} : Rp B H v d → RpAll B H vs ds → RpAll B H (v :: vs) (d :: ds)
end
end
section
variable {K : PySem.W.Frag} {mg : Str → Option Value} {B B' : Addr → Prop} {H H' : Hp}
mutual
theorem Rp.imp (hB : ∀ a, B' a → B a) (hH : ∀ a o, H a = some o → ¬ B a → H' a = some o) : ∀ {d : PyData} {v : V}, Rp B H v d → Rp B' H' v d
  | _, _, .non => .non
  | _, _, .bl b => .bl b
  | _, _, .int i => .int i
  | _, _, .str x => .str x
  | _, _, .lst h n r => .lst (hH _ _ h n) (fun z => n (hB _ z)) (RpAll.imp hB hH r)
  | _, _, .tup h n r => .tup (hH _ _ h n) (fun z => n (hB _ z)) (RpAll.imp hB hH r)
theorem RpAll.imp (hB : ∀ a, B' a → B a) (hH : ∀ a o, H a = some o → ¬ B a → H' a = some o) : ∀ {ds : List PyData} {vs : List V}, RpAll B H vs ds → RpAll B' H' vs ds
  | _, _, .nil => .nil
  | _, _, .cons h r => .cons (Rp.imp hB hH h) (RpAll.imp hB hH r)
end
mutual
/-- an address that H does not track is not in the data -/
theorem Rp.protect {p : Addr} (hp : H p = none) : ∀ {d : PyData} {v : V}, Rp B H v d → Rp (fun a => B a ∨ a = p) H v d
  | _, _, .non => .non
  | _, _, .bl b => .bl b
  | _, _, .int i => .int i
  | _, _, .str x => .str x
  | _, _, .lst h n r => .lst h (fun z => z.elim n fun e => by subst e; rw [hp] at h; cases h) (RpAll.protect hp r)
  | _, _, .tup h n r => .tup h (fun z => z.elim n fun e => by subst e; rw [hp] at h; cases h) (RpAll.protect hp r)
theorem RpAll.protect {p : Addr} (hp : H p = none) : ∀ {ds : List PyData} {vs : List V}, RpAll B H vs ds → RpAll (fun a => B a ∨ a = p) H vs ds
  | _, _, .nil => .nil
  | _, _, .cons h r => .cons (Rp.protect hp h) (RpAll.protect hp r)
end
theorem RpAll.length : ∀ {ds : List PyData} {vs : List V}, RpAll B H vs ds → vs.length = ds.length
  | _, _, .nil => rfl
  | _, _, .cons _ r => congrArg (· + 1) (RpAll.length r)
theorem RpAll.append : ∀ {ds es : List PyData} {vs ws : List V}, RpAll B H vs ds → RpAll B H ws es → RpAll B H (vs ++ ws) (ds ++ es)
  | _, _, _, _, .nil, s => s
  | _, _, _, _, .cons h r, s => .cons h (RpAll.append r s)
theorem RpAll.take : ∀ {ds : List PyData} {vs : List V} (n : Nat), RpAll B H vs ds → RpAll B H (vs.take n) (ds.take n)
  | _, _, 0, _ => .nil
  | _, _, _ + 1, .nil => .nil
  | _, _, n + 1, .cons h r => .cons h (RpAll.take n r)
theorem RpAll.drop : ∀ {ds : List PyData} {vs : List V} (n : Nat), RpAll B H vs ds → RpAll B H (vs.drop n) (ds.drop n)
  | _, _, 0, r => r
  | _, _, _ + 1, .nil => .nil
  | _, _, n + 1, .cons _ r => RpAll.drop n r
theorem RpAll.get : ∀ {ds : List PyData} {vs : List V} {i : Nat} {d : PyData}, RpAll B H vs ds → ds[i]? = some d → ∃ v, vs[i]? = some v ∧ Rp B H v d
  | _, _, _, _, .nil, e => by simp at e
  | _, _, 0, _, .cons h _, e => by simp at e; subst e; exact ⟨_, rfl, h⟩
  | _, _, i + 1, _, .cons _ r, e => by
    obtain ⟨v, e1, e2⟩ := RpAll.get (i := i) r (by simpa using e)
    exact ⟨v, by simpa using e1, e2⟩
theorem RpAll.getV : ∀ {ds : List PyData} {vs : List V} {i : Nat} {v : V}, RpAll B H vs ds → vs[i]? = some v → ∃ d, ds[i]? = some d ∧ Rp B H v d
  | _, _, _, _, .nil, e => by simp at e
  | _, _, 0, _, .cons h _, e => by simp at e; subst e; exact ⟨_, rfl, h⟩
  | _, _, i + 1, _, .cons _ r, e => by
    obtain ⟨v, e1, e2⟩ := RpAll.getV (i := i) r (by simpa using e)
    exact ⟨v, by simpa using e1, e2⟩
theorem RpAll.set {d : PyData} {v : V} (h : Rp B H v d) : ∀ {ds : List PyData} {vs : List V} (i : Nat), RpAll B H vs ds → RpAll B H (vs.set i v) (ds.set i d)
  | _, _, _, .nil => .nil
  | _, _, 0, .cons _ r => .cons h r
  | _, _, i + 1, .cons q r => .cons q (RpAll.set h i r)
theorem RpAll.eraseIdx : ∀ {ds : List PyData} {vs : List V} (i : Nat), RpAll B H vs ds → RpAll B H (vs.eraseIdx i) (ds.eraseIdx i)
  | _, _, _, .nil => .nil
  | _, _, 0, .cons _ r => r
  | _, _, i + 1, .cons q r => .cons q (RpAll.eraseIdx i r)
theorem RpAll.reverse : ∀ {ds : List PyData} {vs : List V}, RpAll B H vs ds → RpAll B H vs.reverse ds.reverse
  | _, _, .nil => .nil
  | _, _, .cons h r => by
    rw [List.reverse_cons, List.reverse_cons]
    exact RpAll.append (RpAll.reverse r) (.cons h .nil)
theorem RpAll.ints : ∀ {ns : List Int} {ds : List PyData} {vs : List V}, RpAll B H vs ds → intsOf ds = some ns → vs = ns.map V.int
  | ns, _, _, .nil, e => by simp [intsOf] at e; subst e; rfl
  | ns, _, _, .cons h r, e => by
    cases h with
    | int i =>
      simp only [intsOf, Option.map_eq_some_iff] at e
      obtain ⟨ms, e1, rfl⟩ := e
      rw [RpAll.ints r e1]
      rfl
    | _ => simp [intsOf] at e
theorem RpAll.bools : ∀ {ns : List Bool} {ds : List PyData} {vs : List V}, RpAll B H vs ds → boolsOf ds = some ns → vs = ns.map V.bl
  | ns, _, _, .nil, e => by simp [boolsOf] at e; subst e; rfl
  | ns, _, _, .cons h r, e => by
    cases h with
    | bl i =>
      simp only [boolsOf, Option.map_eq_some_iff] at e
      obtain ⟨ms, e1, rfl⟩ := e
      rw [RpAll.bools r e1]
      rfl
    | _ => simp [boolsOf] at e
theorem rpAll_ints : ∀ ns : List Int, RpAll B H (ns.map V.int) (ns.map PyData.int)
  | [] => .nil
  | n :: r => .cons (.int n) (rpAll_ints r)
mutual
theorem Rp.dp : ∀ {d : PyData} {v : V}, Rp B H v d → Dp K H v d
  | _, _, .non => .non
  | _, _, .bl b => .bl b
  | _, _, .int i => .int i
  | _, _, .str x => .str x
  | _, _, .lst h _ r => .lst (SqL.of h) (RpAll.dp r)
  | _, _, .tup h _ r => .tup (SqT.of h) (RpAll.dp r)
theorem RpAll.dp : ∀ {ds : List PyData} {vs : List V}, RpAll B H vs ds → DpAll K H vs ds
  | _, _, .nil => .nil
  | _, _, .cons h r => .cons (Rp.dp h) (RpAll.dp r)
end
end

/-! ### slots -/
/-- a def's run: the abstract heap at its entry, what it was handed to change -/
structure Fm where
  H0 : Hp
  I0 : Addr → Prop
def Bd (R : Addr → Prop) (A : Nat → List Addr) : Addr → Prop := fun a => R a ∨ ∃ i, a ∈ A i
section
variable (K : PySem.W.Frag) (mg : Str → Option Value)
def RepKI (B : Addr → Prop) (H : Hp) : List (Key × V) → List (Int × PyData) → Prop := Paired fun p q => p.1 = Sum.inl q.1 ∧ Rp B H p.2 q.2
def RepKP (B : Addr → Prop) (H : Hp) : List (List Key × V) → List (List Int × PyData) → Prop := Paired fun p q => p.1 = q.1.map Sum.inl ∧ Rp B H p.2 q.2
/-- a dict of own lists: the keys, the lists' addresses, what they hold -/
inductive RepKL (B : Addr → Prop) (H : Hp) : List (Key × V) → List Addr → List (Int × List PyData) → Prop
  | nil : RepKL B H [] [] []
  | cons {k : Int} {a : Addr} {vs : List V} {ds : List PyData} {kvs : List (Key × V)} {as : List Addr} {r : List (Int × List PyData)} : H a = some (.lst vs) → RpAll B H vs ds → RepKL B H kvs as r →
      RepKL B H ((Sum.inl k, .ref a) :: kvs) (a :: as) ((k, ds) :: r)
def RepS (B : Addr → Prop) (H : Hp) (l : List Addr) (v : V) : SV → Prop
  | .dat d => Rp B H v d
  | .own xs => ∃ a vs, l = [a] ∧ v = .ref a ∧ H a = some (.lst vs) ∧ RpAll B H vs xs
  | .dI kvs => ∃ a o ws, v = .ref a ∧ H a = some (.frz o (.dK ws)) ∧ ¬ B a ∧ RepKI B H ws kvs
  | .dP kvs => ∃ a o ws, v = .ref a ∧ H a = some (.frz o (.dT ws)) ∧ ¬ B a ∧ RepKP B H ws kvs
  | .dL kvs => ∃ a o ws, v = .ref a ∧ H a = some (.frz o (.dK ws)) ∧ ¬ B a ∧ RepKL B H ws l kvs
  | .fnv x => ∃ f, v = .ref f ∧ mg x = some (.ref f)
  | .scr ns => ∃ a, v = .ref a ∧ (SqL K (fun _ => none) a (ns.map V.int) ∨ (Rd H a (.lst (ns.map V.int)) ∧ ¬ B a))
structure Rel (F : Fm) (R : Addr → Prop) (A : Nat → List Addr) (ρ : En) (σ : St) (H : Hp) : Prop where
  len : ρ.length = σ.length
  sl : ∀ (i : Nat) (sv : SV), ρ[i]? = some (some sv) → ∃ v, σ[i]? = some (some v) ∧ RepS K mg (Bd R A) H (A i) v sv
  inj : ∀ i j a, a ∈ A i → a ∈ A j → i = j
  nd : ∀ i, (A i).Nodup
  sep : ∀ i a, a ∈ A i → ¬ R a
  dom : ∀ a, Bd R A a → H a ≠ none
  nt : ∀ a, Bd R A a → ∀ vs, H a ≠ some (.tup vs)
  fr : ∀ a o, F.H0 a = some o → ¬ F.I0 a → H a = some o
  frd : ∀ a, F.H0 a ≠ none → H a ≠ none
  own0 : ∀ i a, a ∈ A i → F.H0 a = none ∨ F.I0 a
end
/-- nothing that was there is changed; only owned ones are -/
def Ex0 (H H' : Hp) : Prop := ∀ a o, H a = some o → H' a = some o
def Ext (A : Nat → List Addr) (H H' : Hp) : Prop := (∀ a o, H a = some o → (∀ i, a ∉ A i) → H' a = some o) ∧ ∀ a, H a ≠ none → H' a ≠ none
def Sub (A' A : Nat → List Addr) : Prop := ∀ i a, a ∈ A' i → a ∈ A i
theorem Sub.refl (A : Nat → List Addr) : Sub A A := fun _ _ h => h
theorem Sub.trans {A B C : Nat → List Addr} (x : Sub A B) (y : Sub B C) : Sub A C := fun i a h => y i a (x i a h)
theorem Ex0.refl (H : Hp) : Ex0 H H := fun _ _ h => h
theorem Ex0.trans {H H1 H2 : Hp} (x : Ex0 H H1) (y : Ex0 H1 H2) : Ex0 H H2 := fun a o h => y a o (x a o h)
theorem Ex0.new {H : Hp} {p : Addr} {o : HO} (h : H p = none) : Ex0 H (upd H p o) := fun a u e => by
  rw [upd_ne (ne_of_none e h)]
  exact e
theorem Ex0.dom {H H' : Hp} (x : Ex0 H H') {a : Addr} (h : H a ≠ none) : H' a ≠ none := fun z => by
  cases e : H a with
  | none => exact h e
  | some o =>
    rw [x a o e] at z
    cases z
theorem Ex0.ext {A : Nat → List Addr} {H H' : Hp} (x : Ex0 H H') : Ext A H H' := ⟨fun a o h _ => x a o h, fun _ h => x.dom h⟩
theorem Ext.refl (A : Nat → List Addr) (H : Hp) : Ext A H H := (Ex0.refl H).ext
theorem Ext.trans {A A1 : Nat → List Addr} {H H1 H2 : Hp} (x : Ext A H H1) (y : Ext A1 H1 H2) (s : Sub A1 A) : Ext A H H2 :=
  ⟨fun a o h n => y.1 a o (x.1 a o h n) fun i z => n i (s i a z), fun a h => y.2 a (x.2 a h)⟩
theorem Bd.sub {R : Addr → Prop} {A A' : Nat → List Addr} (s : Sub A' A) : ∀ a, Bd R A' a → Bd R A a := fun a h => h.elim .inl fun ⟨i, z⟩ => .inr ⟨i, s i a z⟩

section
variable {K : PySem.W.Frag} {mg : Str → Option Value} {F : Fm} {R R' : Addr → Prop} {A A' : Nat → List Addr} {ρ : En} {σ : St} {H H' : Hp} {v : V} {d : PyData} {vs : List V} {ds : List PyData} {p : Addr} {i : Nat}
/-- data stays while only owned objects change -/
theorem Rp.ext (h : Rp (Bd R A) H v d) (x : Ext A H H') : Rp (Bd R A) H' v d := h.imp (fun _ z => z) fun a o e n => x.1 a o e fun i z => n (.inr ⟨i, z⟩)
theorem RpAll.ext (h : RpAll (Bd R A) H vs ds) (x : Ext A H H') : RpAll (Bd R A) H' vs ds := h.imp (fun _ z => z) fun a o e n => x.1 a o e fun i z => n (.inr ⟨i, z⟩)
theorem Rp.sub (h : Rp (Bd R A) H v d) (s : Sub A' A) : Rp (Bd R A') H v d := h.imp (Bd.sub s) fun _ _ e _ => e
theorem RpAll.sub (h : RpAll (Bd R A) H vs ds) (s : Sub A' A) : RpAll (Bd R A') H vs ds := h.imp (Bd.sub s) fun _ _ e _ => e
theorem Rp.ex0 {B : Addr → Prop} (h : Rp B H v d) (x : Ex0 H H') : Rp B H' v d := h.imp (fun _ z => z) fun a o e _ => x a o e
theorem RpAll.ex0 {B : Addr → Prop} (h : RpAll B H vs ds) (x : Ex0 H H') : RpAll B H' vs ds := h.imp (fun _ z => z) fun a o e _ => x a o e
theorem sqL_keep {a : Addr} {xs : List V} (h : SqL K H a xs) (x : ∀ o, H a = some o → H' a = some o) : SqL K H' a xs := by
  rcases h with (h | ⟨o, h⟩) | h
  · exact .inl (.inl (x _ h))
  · exact .inl (.inr ⟨o, x _ h⟩)
  · exact .inr h
theorem sqT_keep {a : Addr} {xs : List V} (h : SqT K H a xs) (x : ∀ o, H a = some o → H' a = some o) : SqT K H' a xs := by
  rcases h with (h | ⟨o, h⟩) | h
  · exact .inl (.inl (x _ h))
  · exact .inl (.inr ⟨o, x _ h⟩)
  · exact .inr h
theorem RepKL.imp {B B' : Addr → Prop} (hB : ∀ a, B' a → B a) (hH : ∀ a o, H a = some o → ¬ B a → H' a = some o) : ∀ {ws : List (Key × V)} {as : List Addr} {kvs : List (Int × List PyData)}, (∀ a ∈ as, ∀ o, H a = some o → H' a = some o) → RepKL B H ws as kvs → RepKL B' H' ws as kvs
  | _, _, _, _, .nil => .nil
  | _, _, _, k, .cons h r t => .cons (k _ List.mem_cons_self _ h) (r.imp hB hH) (RepKL.imp hB hH (fun a ha => k a (List.mem_cons_of_mem _ ha)) t)
/-- a slot stays while its own objects do -/
theorem RepS.imp {B B' : Addr → Prop} {l : List Addr} {sv : SV} (h : RepS K mg B H l v sv) (hB : ∀ a, B' a → B a) (hH : ∀ a o, H a = some o → ¬ B a → H' a = some o) (hl : ∀ a ∈ l, ∀ o, H a = some o → H' a = some o) : RepS K mg B' H' l v sv := by
  cases sv with
  | dat d => exact Rp.imp hB hH h
  | own xs =>
    obtain ⟨a, vs, rfl, rfl, e, r⟩ := h
    exact ⟨a, vs, rfl, rfl, hl a (by simp) _ e, r.imp hB hH⟩
  | dI kvs =>
    obtain ⟨a, o, ws, rfl, e, n, r⟩ := h
    exact ⟨a, o, ws, rfl, hH a _ e n, fun z => n (hB a z), Paired.mapP r fun _ _ z => ⟨z.1, z.2.imp hB hH⟩⟩
  | dP kvs =>
    obtain ⟨a, o, ws, rfl, e, n, r⟩ := h
    exact ⟨a, o, ws, rfl, hH a _ e n, fun z => n (hB a z), Paired.mapP r fun _ _ z => ⟨z.1, z.2.imp hB hH⟩⟩
  | dL kvs =>
    obtain ⟨a, o, ws, rfl, e, n, r⟩ := h
    exact ⟨a, o, ws, rfl, hH a _ e n, fun z => n (hB a z), r.imp hB hH fun b hb => hl b hb⟩
  | fnv x => exact h
  | scr ns =>
    obtain ⟨a, rfl, s | ⟨s, n⟩⟩ := h
    · exact ⟨a, rfl, .inl s⟩
    · refine ⟨a, rfl, .inr ⟨?_, fun z => n (hB a z)⟩⟩
      rcases s with s | ⟨o, s⟩
      · exact .inl (hH a _ s n)
      · exact .inr ⟨o, hH a _ s n⟩
theorem RepKL.protect {B : Addr → Prop} (hp : H p = none) : ∀ {ws : List (Key × V)} {as : List Addr} {kvs : List (Int × List PyData)}, RepKL B H ws as kvs → RepKL (fun a => B a ∨ a = p) H ws as kvs
  | _, _, _, .nil => .nil
  | _, _, _, .cons h r t => .cons h (r.protect hp) (RepKL.protect hp t)
theorem RepS.protect {B : Addr → Prop} {l : List Addr} {sv : SV} (h : RepS K mg B H l v sv) (hp : H p = none) : RepS K mg (fun a => B a ∨ a = p) H l v sv := by
  cases sv with
  | dat d => exact Rp.protect hp h
  | own xs =>
    obtain ⟨a, vs, rfl, rfl, e, r⟩ := h
    exact ⟨a, vs, rfl, rfl, e, r.protect hp⟩
  | dI kvs =>
    obtain ⟨a, o, ws, rfl, e, n, r⟩ := h
    exact ⟨a, o, ws, rfl, e, (fun z => Or.elim z n fun (q : a = p) => by rw [q, hp] at e; cases e), Paired.mapP r fun _ _ z => ⟨z.1, z.2.protect hp⟩⟩
  | dP kvs =>
    obtain ⟨a, o, ws, rfl, e, n, r⟩ := h
    exact ⟨a, o, ws, rfl, e, (fun z => Or.elim z n fun (q : a = p) => by rw [q, hp] at e; cases e), Paired.mapP r fun _ _ z => ⟨z.1, z.2.protect hp⟩⟩
  | dL kvs =>
    obtain ⟨a, o, ws, rfl, e, n, r⟩ := h
    exact ⟨a, o, ws, rfl, e, (fun z => Or.elim z n fun (q : a = p) => by rw [q, hp] at e; cases e), r.protect hp⟩
  | fnv x => exact h
  | scr ns =>
    obtain ⟨a, rfl, s | ⟨s, n⟩⟩ := h
    · exact ⟨a, rfl, .inl s⟩
    · refine ⟨a, rfl, .inr ⟨s, fun z => z.elim n fun e => ?_⟩⟩
      subst e
      rcases s with s | ⟨o, s⟩ <;> (rw [hp] at s; cases s)
/-! ### the state changes -/
theorem Rel.grow (h : Rel K mg F R A ρ σ H) (x : Ex0 H H') : Rel K mg F R A ρ σ H' where
  len := h.len
  sl := fun i sv e => by
    obtain ⟨v, e1, r⟩ := h.sl i sv e
    exact ⟨v, e1, r.imp (fun _ z => z) (fun a o e _ => x a o e) fun a _ o e => x a o e⟩
  inj := h.inj
  nd := h.nd
  sep := h.sep
  dom := fun a z => x.dom (h.dom a z)
  nt := fun a z vs e => by
    cases q : H a with
    | none => exact h.dom a z q
    | some o =>
      rw [x a o q] at e
      cases e
      exact h.nt a z vs q
  fr := fun a o e n => x a o (h.fr a o e n)
  frd := fun a e => x.dom (h.frd a e)
  own0 := h.own0
/-- a new object that nobody else is to speak of -/
theorem Rel.guard {o : HO} (h : Rel K mg F R A ρ σ H) (hp : H p = none) (ho : ∀ vs, o ≠ .tup vs := by intro _ z; cases z) : Rel K mg F (fun a => R a ∨ a = p) A ρ σ (upd H p o) where
  len := h.len
  sl := fun i sv e => by
    obtain ⟨v, e1, r⟩ := h.sl i sv e
    refine ⟨v, e1, (r.protect hp).imp (fun a z => ?_) (fun a u e n => ?_) fun a _ u e => Ex0.new hp a u e⟩
    · rcases z with (z | z) | z
      · exact .inl (.inl z)
      · exact .inr z
      · exact .inl (.inr z)
    · exact Ex0.new hp a u e
  inj := h.inj
  nd := h.nd
  sep := fun i a ha z => z.elim (h.sep i a ha) fun e => by
    subst e
    exact h.dom a (.inr ⟨i, ha⟩) hp
  dom := fun a z => by
    by_cases e : a = p
    · subst e
      rw [upd_same]
      exact fun q => nomatch q
    · rw [upd_ne e]
      refine h.dom a ?_
      rcases z with (z | z) | z
      · exact .inl z
      · exact absurd z e
      · exact .inr z
  nt := fun a z vs q => by
    by_cases e : a = p
    · rw [e, upd_same] at q
      cases q
      exact ho vs rfl
    · rw [upd_ne e] at q
      refine h.nt a ?_ vs q
      rcases z with (z | z) | z
      · exact .inl z
      · exact absurd z e
      · exact .inr z
  fr := fun a u e n => Ex0.new hp a u (h.fr a u e n)
  frd := fun a e => (Ex0.new (o := o) hp).dom (h.frd a e)
  own0 := h.own0
/-- fewer foreign objects -/
theorem Rel.less (h : Rel K mg F R A ρ σ H) (s : ∀ a, R' a → R a) : Rel K mg F R' A ρ σ H where
  len := h.len
  sl := fun i sv e => by
    obtain ⟨v, e1, r⟩ := h.sl i sv e
    exact ⟨v, e1, r.imp (fun a z => z.elim (fun q => .inl (s a q)) .inr) (fun _ _ e _ => e) fun _ _ _ e => e⟩
  inj := h.inj
  nd := h.nd
  sep := fun i a ha z => h.sep i a ha (s a z)
  dom := fun a z => h.dom a (z.elim (fun q => .inl (s a q)) .inr)
  nt := fun a z => h.nt a (z.elim (fun q => .inl (s a q)) .inr)
  fr := h.fr
  frd := h.frd
  own0 := h.own0
/-- who owns what, one slot anew -/
def own1 (A : Nat → List Addr) (i : Nat) (l : List Addr) : Nat → List Addr := fun j => if j = i then l else A j
theorem own1_same {A : Nat → List Addr} {i : Nat} {l : List Addr} : own1 A i l i = l := by unfold own1; rw [if_pos rfl]
theorem own1_ne {A : Nat → List Addr} {i j : Nat} {l : List Addr} (h : j ≠ i) : own1 A i l j = A j := by unfold own1; rw [if_neg h]
theorem own1_sub {A : Nat → List Addr} {i : Nat} : Sub (own1 A i []) A := fun j a h => by
  unfold own1 at h
  split at h
  · cases h
  · exact h
theorem own1_self {A : Nat → List Addr} {i : Nat} : own1 A i (A i) = A := by
  funext j
  unfold own1
  split
  · rename_i e; rw [e]
  · rfl
/-- THE STORE: slot i takes a new value; l is what it owns -/
theorem Rel.put {sv : SV} {l : List Addr} (h : Rel K mg F R' A ρ σ H) (hi : i < σ.length) (hs : RepS K mg (Bd R (own1 A i l)) H l v sv) (hR : ∀ a, R a → R' a) (hl : ∀ a ∈ l, ¬ R a ∧ (R' a ∨ a ∈ A i) ∧ (F.H0 a = none ∨ F.I0 a)) (hn : l.Nodup) :
    Rel K mg F R (own1 A i l) (ρ.set i (some sv)) (σ.set i (some v)) H where
  len := by simp [h.len]
  sl := fun j sw e => by
    by_cases hj : j = i
    · subst hj
      rw [List.getElem?_set_self (by rw [h.len]; exact hi)] at e
      cases e
      refine ⟨v, by rw [List.getElem?_set_self hi], ?_⟩
      rw [own1_same]
      exact hs
    · rw [List.getElem?_set_ne (Ne.symm hj)] at e
      obtain ⟨w, e1, r⟩ := h.sl j sw e
      refine ⟨w, by rw [List.getElem?_set_ne (Ne.symm hj)]; exact e1, ?_⟩
      rw [own1_ne hj]
      refine r.imp (fun a z => ?_) (fun _ _ e _ => e) fun _ _ _ e => e
      rcases z with z | ⟨k, z⟩
      · exact .inl (hR a z)
      · by_cases hk : k = i
        · subst hk
          rw [own1_same] at z
          exact (hl a z).2.1.elim .inl fun q => .inr ⟨k, q⟩
        · rw [own1_ne hk] at z
          exact .inr ⟨k, z⟩
  inj := fun j k a h1 h2 => by
    by_cases hj : j = i
    · by_cases hk : k = i
      · rw [hj, hk]
      · rw [hj, own1_same] at h1
        rw [own1_ne hk] at h2
        rcases (hl a h1).2.1 with z | z
        · exact absurd z (h.sep k a h2)
        · exact hj.trans (h.inj i k a z h2)
    · rw [own1_ne hj] at h1
      by_cases hk : k = i
      · rw [hk, own1_same] at h2
        rcases (hl a h2).2.1 with z | z
        · exact absurd z (h.sep j a h1)
        · rw [hk]; exact h.inj j i a h1 z
      · rw [own1_ne hk] at h2
        exact h.inj j k a h1 h2
  nd := fun j => by
    by_cases hj : j = i
    · rw [hj, own1_same]; exact hn
    · rw [own1_ne hj]; exact h.nd j
  sep := fun j a ha => by
    by_cases hj : j = i
    · rw [hj, own1_same] at ha; exact (hl a ha).1
    · rw [own1_ne hj] at ha
      exact fun z => h.sep j a ha (hR a z)
  dom := fun a z => by
    refine h.dom a ?_
    rcases z with z | ⟨k, z⟩
    · exact .inl (hR a z)
    · by_cases hk : k = i
      · rw [hk, own1_same] at z
        exact (hl a z).2.1.elim .inl fun q => .inr ⟨i, q⟩
      · rw [own1_ne hk] at z
        exact .inr ⟨k, z⟩
  nt := fun a z => by
    refine h.nt a ?_
    rcases z with z | ⟨k, z⟩
    · exact .inl (hR a z)
    · by_cases hk : k = i
      · rw [hk, own1_same] at z
        exact (hl a z).2.1.elim .inl fun q => .inr ⟨i, q⟩
      · rw [own1_ne hk] at z
        exact .inr ⟨k, z⟩
  fr := h.fr
  frd := h.frd
  own0 := fun j a ha => by
    by_cases hj : j = i
    · rw [hj, own1_same] at ha; exact (hl a ha).2.2
    · rw [own1_ne hj] at ha; exact h.own0 j a ha
theorem Rel.putD (h : Rel K mg F R A ρ σ H) (hi : i < σ.length) (r : Rp (Bd R A) H v d) : Rel K mg F R (own1 A i []) (ρ.set i (some (.dat d))) (σ.set i (some v)) H :=
  h.put (l := []) hi (r.sub own1_sub) (fun _ z => z) (fun _ z => nomatch z) List.nodup_nil
/-- a slot that holds something is one -/
theorem Rel.lt {sv : SV} (h : Rel K mg F R A ρ σ H) (e : ρ[i]? = some (some sv)) : i < σ.length := by
  rw [← h.len]
  exact (List.getElem?_eq_some_iff.mp e).1
/-- the slot's value stays, what it means changes -/
theorem Rel.mean {sv sw : SV} {l : List Addr} (h : Rel K mg F R A ρ σ H) (e : ρ[i]? = some (some sv)) (hv : σ[i]? = some (some v)) (hs : RepS K mg (Bd R (own1 A i l)) H l v sw) (hl : ∀ a ∈ l, a ∈ A i) (hn : l.Nodup) :
    Rel K mg F R (own1 A i l) (ρ.set i (some sw)) σ H := by
  have q := h.put (R := R) (h.lt e) hs (fun _ z => z) (fun a z => ⟨h.sep i a (hl a z), .inr (hl a z), h.own0 i a (hl a z)⟩) hn
  have e2 : σ.set i (some v) = σ := by
    apply List.ext_getElem?
    intro j
    by_cases hj : i = j
    · subst hj
      rw [List.getElem?_set_self (h.lt e), hv]
    · rw [List.getElem?_set_ne hj]
  rw [e2] at q
  exact q
/-- an owned object changes -/
theorem Rel.write {o : HO} {a : Addr} {sv : SV} (h : Rel K mg F R A ρ σ H) (ha : a ∈ A i) (ho : ∀ vs, o ≠ .tup vs) (hs : ∀ w, σ[i]? = some (some w) → RepS K mg (Bd R A) (upd H a o) (A i) w sv) (hi : ∃ su, ρ[i]? = some (some su)) :
    Rel K mg F R A (ρ.set i (some sv)) σ (upd H a o) := by
  have kp : ∀ b u, H b = some u → b ≠ a → upd H a o b = some u := fun b u e n => by rw [upd_ne n]; exact e
  obtain ⟨su, hi⟩ := hi
  refine ⟨by simp [h.len], fun j sw e => ?_, h.inj, h.nd, h.sep, fun b z => ?_, fun b z vs q => ?_, fun b u e n => ?_, fun b e => ?_, h.own0⟩
  · by_cases hj : j = i
    · subst hj
      rw [List.getElem?_set_self (by rw [h.len]; exact h.lt hi)] at e
      cases e
      obtain ⟨w, e1, _⟩ := h.sl j su hi
      exact ⟨w, e1, hs w e1⟩
    · rw [List.getElem?_set_ne (Ne.symm hj)] at e
      obtain ⟨w, e1, r⟩ := h.sl j sw e
      refine ⟨w, e1, r.imp (fun _ z => z) (fun b u e n => kp b u e ?_) fun b hb u e => kp b u e ?_⟩
      · rintro rfl; exact n (.inr ⟨i, ha⟩)
      · rintro rfl; exact hj (h.inj j i b hb ha)
  · by_cases e : b = a
    · rw [e, upd_same]; exact fun q => nomatch q
    · rw [upd_ne e]; exact h.dom b z
  · by_cases e : b = a
    · rw [e, upd_same] at q
      cases q
      exact ho vs rfl
    · rw [upd_ne e] at q
      exact h.nt b z vs q
  · refine kp b u (h.fr b u e n) ?_
    rintro rfl
    rcases h.own0 i b ha with z | z
    · rw [z] at e; cases e
    · exact n z
  · by_cases q : b = a
    · rw [q, upd_same]; exact fun q => nomatch q
    · rw [upd_ne q]; exact h.frd b e
theorem Ext.write {o : HO} {a : Addr} (ha : a ∈ A i) : Ext A H (upd H a o) := ⟨fun b u e n => by
  rw [upd_ne (fun (z : b = a) => n i (by rw [z]; exact ha))]
  exact e, fun b e => by
  by_cases q : b = a
  · rw [q, upd_same]; exact fun q => nomatch q
  · rw [upd_ne q]; exact e⟩
/-- forgetting slots -/
theorem Rel.forget {ρ' : En} {σ' : St} (h : Rel K mg F R A ρ σ H) (hl : ρ'.length = σ'.length) (w : ∀ (i : Nat) sv, ρ'[i]? = some (some sv) → ρ[i]? = some (some sv) ∧ ∀ v, σ[i]? = some (some v) → σ'[i]? = some (some v)) : Rel K mg F R A ρ' σ' H where
  len := hl
  sl := fun i sv e => by
    obtain ⟨e1, e2⟩ := w i sv e
    obtain ⟨v, e3, r⟩ := h.sl i sv e1
    exact ⟨v, e2 v e3, r⟩
  inj := h.inj
  nd := h.nd
  sep := h.sep
  dom := h.dom
  nt := h.nt
  fr := h.fr
  frd := h.frd
  own0 := h.own0
theorem wipeE_some {ρ : En} {i : Nat} {sv : SV} : ∀ {vs : List Nat}, (wipeE ρ vs)[i]? = some (some sv) → ρ[i]? = some (some sv) ∧ i ∉ vs
  | [], h => ⟨h, by simp⟩
  | v :: vs, h => by
    unfold wipeE at h
    by_cases hi : v = i
    · subst hi
      by_cases hv : v < (wipeE ρ vs).length
      · rw [List.getElem?_set_self hv] at h; cases h
      · rw [List.getElem?_eq_none (by simpa using hv)] at h; cases h
    · rw [List.getElem?_set_ne hi] at h
      obtain ⟨h1, h2⟩ := wipeE_some h
      exact ⟨h1, by simp only [List.mem_cons, not_or]; exact ⟨fun e => hi e.symm, h2⟩⟩
theorem wipeE_length (ρ : En) : ∀ vs : List Nat, (wipeE ρ vs).length = ρ.length
  | [] => rfl
  | v :: vs => by unfold wipeE; rw [List.length_set, wipeE_length ρ vs]
theorem wipe_keep {σ : St} {i : Nat} {x : Option V} : ∀ {vs : List Nat}, i ∉ vs → σ[i]? = some x → (wipe σ vs)[i]? = some x
  | [], _, h => h
  | v :: vs, n, h => by
    simp only [List.mem_cons, not_or] at n
    unfold wipe
    rw [List.getElem?_set_ne (Ne.symm n.1)]
    exact wipe_keep n.2 h
theorem Rel.wipe (h : Rel K mg F R A ρ σ H) (vs : List Nat) : Rel K mg F R A (wipeE ρ vs) (L2.wipe σ vs) H :=
  h.forget (by rw [wipeE_length, wipe_length, h.len]) fun i sv e => by
    obtain ⟨e1, n⟩ := wipeE_some e
    exact ⟨e1, fun v z => wipe_keep n z⟩
end
end Mo
end
section
set_option autoImplicit false
set_option linter.all false
set_option Elab.async false
set_option maxHeartbeats 1000000
/-! MJ: the judgements' readings by plain functions: expressions, tests, arguments. -/
namespace Mo
open PySem L2

/-- a step: what only others own, and what is data, stays; who owns now owned before, or it is new -/
structure Stp (A : Nat → List Addr) (H : Hp) (A' : Nat → List Addr) (H' : Hp) : Prop where
  ext : Ext A H H'
  own : ∀ i a, a ∈ A' i → (∃ j, a ∈ A j) ∨ H a = none
theorem Stp.refl (A : Nat → List Addr) (H : Hp) : Stp A H A H := ⟨.refl A H, fun i _ h => .inl ⟨i, h⟩⟩
theorem Stp.back {A A1 : Nat → List Addr} {H H1 : Hp} (x : Stp A H A1 H1) {a : Addr} {o : HO} (e : H a = some o) (n : ∀ i, a ∉ A i) : H1 a = some o ∧ ∀ i, a ∉ A1 i :=
  ⟨x.ext.1 a o e n, fun i z => (x.own i a z).elim (fun ⟨j, q⟩ => n j q) fun q => by rw [q] at e; cases e⟩
theorem Stp.trans {A A1 A2 : Nat → List Addr} {H H1 H2 : Hp} (x : Stp A H A1 H1) (y : Stp A1 H1 A2 H2) : Stp A H A2 H2 where
  ext := ⟨fun a o e n => y.ext.1 a o (x.back e n).1 (x.back e n).2, fun a e => y.ext.2 a (x.ext.2 a e)⟩
  own := fun i a z => by
    rcases y.own i a z with ⟨j, q⟩ | q
    · exact x.own j a q
    · refine .inr ?_
      cases e : H a with
      | none => rfl
      | some o => exact absurd q (x.ext.2 a (by rw [e]; exact fun z => nomatch z))
theorem Ex0.stp {A : Nat → List Addr} {H H' : Hp} (x : Ex0 H H') : Stp A H A H' := ⟨x.ext, fun i _ h => .inl ⟨i, h⟩⟩
theorem Stp.sub {A A' : Nat → List Addr} {H : Hp} (s : Sub A' A) : Stp A H A' H := ⟨.refl A H, fun i a h => .inl ⟨i, s i a h⟩⟩
section
variable {R : Addr → Prop} {A A' : Nat → List Addr} {H H' : Hp} {v : V} {d : PyData} {vs : List V} {ds : List PyData}
mutual
theorem Rp.stp (x : Stp A H A' H') : ∀ {d : PyData} {v : V}, Rp (Bd R A) H v d → Rp (Bd R A') H' v d
  | _, _, .non => .non
  | _, _, .bl b => .bl b
  | _, _, .int i => .int i
  | _, _, .str y => .str y
  | _, _, .lst h n r => .lst (x.back h fun i z => n (.inr ⟨i, z⟩)).1 (fun z => z.elim (fun q => n (.inl q)) fun ⟨i, q⟩ => (x.back h fun i z => n (.inr ⟨i, z⟩)).2 i q) (RpAll.stp x r)
  | _, _, .tup h n r => .tup (x.back h fun i z => n (.inr ⟨i, z⟩)).1 (fun z => z.elim (fun q => n (.inl q)) fun ⟨i, q⟩ => (x.back h fun i z => n (.inr ⟨i, z⟩)).2 i q) (RpAll.stp x r)
theorem RpAll.stp (x : Stp A H A' H') : ∀ {ds : List PyData} {vs : List V}, RpAll (Bd R A) H vs ds → RpAll (Bd R A') H' vs ds
  | _, _, .nil => .nil
  | _, _, .cons h r => .cons (Rp.stp x h) (RpAll.stp x r)
end
end

def sat {α : Type} (W : Exn → En → Prop) (P : α → En → Prop) : Out α → Prop
  | .stuck => False
  | .ok a ρ => P a ρ
  | .exc x ρ => W x ρ
section
variable {α β : Type} {W W' : Exn → En → Prop} {P P' : α → En → Prop} {o : Out α}
theorem sat_imp (h : sat W P o) (hp : ∀ a ρ, P a ρ → P' a ρ) (hw : ∀ x ρ, W x ρ → W' x ρ) : sat W' P' o := by
  cases o with
  | stuck => exact h
  | ok a ρ => exact hp a ρ h
  | exc x ρ => exact hw x ρ h
theorem sat_mono (h : sat W P o) (hp : ∀ a ρ, P a ρ → P' a ρ) : sat W P' o := sat_imp h hp fun _ _ z => z
theorem sat_bind {P : β → En → Prop} {k : α → En → Out β} (h : sat W P (o.bind k)) : sat W (fun a ρ => sat W P (k a ρ)) o := by
  cases o with
  | stuck => exact h
  | ok a ρ => exact h
  | exc x ρ => exact h
theorem sat_lift {x : Option α} {ρ : En} (h : sat W P (lift x ρ)) : ∃ a, x = some a ∧ P a ρ := by
  cases x with
  | none => exact h.elim
  | some a => exact ⟨a, rfl, h⟩
end

/-- what is wanted of an exception -/
abbrev WX := Exn → Fm → (Addr → Prop) → (Nat → List Addr) → En → St → Hp → Prop
section
variable (K : PySem.W.Frag) (mg : Str → Option Value) (W : WX)
def WW (F : Fm) (R : Addr → Prop) : Exn → En → Prop := fun x ρ' => ∀ R' A' σ' H', (∀ a, R a → R' a) → Rel K mg F R' A' ρ' σ' H' → W x F R' A' ρ' σ' H'
theorem WW.up {F : Fm} {R R' : Addr → Prop} (h : ∀ a, R a → R' a) {x : Exn} {ρ : En} (w : WW K mg W F R x ρ) : WW K mg W F R' x ρ := fun R2 A' σ' H' k rel => w R2 A' σ' H' (fun a z => k a (h a z)) rel
/-- the reading of an expression by a plain function; of one that makes a new list; of one that is looked at as a list (kept: by nobody owned) -/
def tE (f : Ex) : TE := fun σ H Q => ∃ F R A ρ, Rel K mg F R A ρ σ H ∧ sat (WW K mg W F R) (fun d ρ' => ∀ A' v H', Stp A H A' H' → Rel K mg F R A' ρ' σ H' → Rp (Bd R A') H' v d → Q v H') (f ρ)
def tN (f : Ls) : TE := fun σ H Q => ∃ F R A ρ, Rel K mg F R A ρ σ H ∧ sat (WW K mg W F R) (fun xs ρ' => ∀ A' p vs H', Stp A H A' H' → Rel K mg F (fun a => R a ∨ a = p) A' ρ' σ H' → ¬ Bd R A' p → H p = none → F.H0 p = none →
  H' p = some (.lst vs) → RpAll (Bd (fun a => R a ∨ a = p) A') H' vs xs → Q (.ref p) H') (f ρ)
def Lk (kept tup : Bool) (R : Addr → Prop) (A : Nat → List Addr) (H : Hp) (v : V) (xs : List PyData) : Prop :=
  ∃ a vs, v = .ref a ∧ RpAll (Bd R A) H vs xs ∧ ((SqL K H a vs ∧ (kept = true → ∀ A' H', Stp A H A' H' → SqL K H' a vs)) ∨ (tup = true ∧ H a = some (.tup vs) ∧ ¬ Bd R A a))
def tL (kept tup : Bool) (f : Ls) : TE := fun σ H Q => ∃ F R A ρ, Rel K mg F R A ρ σ H ∧ sat (WW K mg W F R) (fun xs ρ' => ∀ A' v H', Stp A H A' H' → Rel K mg F R A' ρ' σ H' → Lk K kept tup R A' H' v xs → Q v H') (f ρ)
def tT (f : Ts) : TT := fun σ H Q => ∃ F R A ρ, Rel K mg F R A ρ σ H ∧ sat (WW K mg W F R) (fun b ρ' => ∀ A' H', Stp A H A' H' → Rel K mg F R A' ρ' σ H' → Q b H') (f ρ)
def tDs (f : Ls) : TA := fun σ H Q => ∃ F R A ρ, Rel K mg F R A ρ σ H ∧ sat (WW K mg W F R) (fun xs ρ' => ∀ A' vs H', Stp A H A' H' → Rel K mg F R A' ρ' σ H' → RpAll (Bd R A') H' vs xs → Q vs H') (f ρ)
/-- an argument: data, or a def -/
def ArgR (B : Addr → Prop) (H : Hp) (v : V) : SV → Prop
  | .dat d => Rp B H v d
  | .fnv x => ∃ f, v = .ref f ∧ mg x = some (.ref f)
  | .scr ns => ∃ a, v = .ref a ∧ (SqL K (fun _ => none) a (ns.map V.int) ∨ (Rd H a (.lst (ns.map V.int)) ∧ ¬ B a))
  | .dP kvs => ∃ a o ws, v = .ref a ∧ H a = some (.frz o (.dT ws)) ∧ ¬ B a ∧ RepKP B H ws kvs
  | _ => False
def ArgsR (B : Addr → Prop) (H : Hp) : List V → List SV → Prop := Paired (ArgR K mg B H)
def tAs (f : As) : TA := fun σ H Q => ∃ F R A ρ, Rel K mg F R A ρ σ H ∧ sat (WW K mg W F R) (fun xs ρ' => ∀ A' vs H', Stp A H A' H' → Rel K mg F R A' ρ' σ H' → ArgsR K mg (Bd R A') H' vs xs → Q vs H') (f ρ)
def tOo (f : Os) : TO := fun σ H Q => ∃ F R A ρ, Rel K mg F R A ρ σ H ∧ sat (WW K mg W F R) (fun x ρ' => ∀ A' H', Stp A H A' H' → Rel K mg F R A' ρ' σ H' → Q x H') (f ρ)
end

theorem PE.imp {X : Cx} {e : Expr} {t t' : TE} (h : PE X e t) (k : ∀ σ H Q, t' σ H Q → t σ H Q) : PE X e t' := ⟨fun pins s σ H Q I w => h.run pins s σ H Q I (k σ H Q w)⟩
theorem PT.imp {X : Cx} {e : Expr} {t t' : TT} (h : PT X e t) (k : ∀ σ H Q, t' σ H Q → t σ H Q) : PT X e t' := ⟨fun pins s σ H Q I w => h.run pins s σ H Q I (k σ H Q w)⟩
theorem PW.imp {X : Cx} {e : Expr} {t t' : TT} (h : PW X e t) (k : ∀ σ H Q, t' σ H Q → t σ H Q) : PW X e t' := ⟨fun wh pins s σ H Q I w => h.run wh pins s σ H Q I (k σ H Q w)⟩
theorem PA.imp {X : Cx} {es : List Expr} {t t' : TA} (h : PA X es t) (k : ∀ σ H Q, t' σ H Q → t σ H Q) : PA X es t' := ⟨fun pos pins s σ H Q I w => h.run pos pins s σ H Q I (k σ H Q w)⟩
theorem PS.imp {X : Cx} {st : Stmt} {t t' : TS} (h : PS X st t) (k : ∀ D σ H, t' D σ H → t D σ H) : PS X st t' := ⟨fun pins s σ H D I w => h.run pins s σ H D I (k D σ H w)⟩
theorem PSs.imp {X : Cx} {st : List Stmt} {t t' : TS} (h : PSs X st t) (k : ∀ D σ H, t' D σ H → t D σ H) : PSs X st t' := ⟨fun pins s σ H D I w => h.run pins s σ H D I (k D σ H w)⟩

section
variable {X : Cx} {W : WX} {e e1 e2 e3 : Expr} {es : List Expr} {f g h : Ex} {l : Ls} {pos : Pos} {i : Nat}

/-! ### atoms -/
theorem d_flat {v : V} {d : PyData} (r : ∀ B H, Rp B H v d) (h : PE X e (tC v)) : PE X e (tE X.K X.mg W (cK d)) :=
  PE.imp h fun σ H Q ⟨F, R, A, ρ, rel, s⟩ => s A v H (.refl A H) rel (r _ _)
theorem d_int {n : Int} {j : Nat} : PE X (.Constant (.int n) j pos) (tE X.K X.mg W (cK (.int n))) := d_flat (fun _ _ => .int n) pe_int
theorem d_bl {b : Bool} {j : Nat} : PE X (.Constant (.bool b) j pos) (tE X.K X.mg W (cK (.bool b))) := d_flat (fun _ _ => .bl b) pe_bl
theorem d_str {x : Str} {j : Nat} : PE X (.Constant (.str x) j pos) (tE X.K X.mg W (cK (.str x))) := d_flat (fun _ _ => .str x) pe_str
theorem d_non {j : Nat} : PE X (.Constant .none j pos) (tE X.K X.mg W (cK .none)) := d_flat (fun _ _ => .non) pe_non
/-- a module's constant -/
theorem d_gint {x : Str} {n : Int} {t : Tok} (hg : Gl X x) (hm : X.mg x = some (.int n t)) (hd : (x == ("__debug__" : Str)) = false := by decide) : PE X (.Name x pos) (tE X.K X.mg W (cK (.int n))) := d_flat (fun _ _ => .int n) (pe_glob hg hm ⟨t, rfl⟩ hd)
theorem d_gstr {x y : Str} {t : Tok} (hg : Gl X x) (hm : X.mg x = some (.str y t)) (hd : (x == ("__debug__" : Str)) = false := by decide) : PE X (.Name x pos) (tE X.K X.mg W (cK (.str y))) := d_flat (fun _ _ => .str y) (pe_glob hg hm ⟨t, rfl⟩ hd)
theorem at_dat {ρ : En} {P : PyData → En → Prop} {W' : Exn → En → Prop} (h : sat W' P (cV i ρ)) : ∃ d, ρ[i]? = some (some (.dat d)) ∧ P d ρ := by
  unfold cV at h
  split at h
  · rename_i d e
    exact ⟨d, e, h⟩
  · exact h.elim
theorem d_var (h : PE X e (tVar i)) : PE X e (tE X.K X.mg W (cV i)) := PE.imp h fun σ H Q ⟨F, R, A, ρ, rel, s⟩ => by
  obtain ⟨d, e1, q⟩ := at_dat s
  obtain ⟨v, e2, r⟩ := rel.sl i _ e1
  exact ⟨v, e2, q A v H (.refl A H) rel r⟩
/-- an own list's name as a value: from here on it is not changed -/
theorem d_fz (h : PE X e (tVar i)) : PE X e (tE X.K X.mg W (cFz i)) := PE.imp h fun σ H Q ⟨F, R, A, ρ, rel, s⟩ => by
  unfold cFz at s
  split at s
  · rename_i xs e1
    obtain ⟨v, e2, a, vs, ea, rfl, e3, r⟩ := rel.sl i _ e1
    have hn : ¬ Bd R (own1 A i []) a := fun z => by
      have ha : a ∈ A i := by rw [ea]; simp
      rcases z with z | ⟨j, z⟩
      · exact rel.sep i a ha z
      · by_cases hj : j = i
        · rw [hj, own1_same] at z; cases z
        · rw [own1_ne hj] at z
          exact hj (rel.inj j i a z ha)
    have rp : Rp (Bd R (own1 A i [])) H (.ref a) (.list xs) := .lst e3 hn (r.sub own1_sub)
    exact ⟨_, e2, s (own1 A i []) _ H (.sub own1_sub) (rel.mean (v := .ref a) (sw := .dat (.list xs)) e1 e2 rp (fun _ z => nomatch z) List.nodup_nil) rp⟩
  · exact s.elim

/-! ### operators -/
def OpOk (r : R2) (o : Op2) : Prop := ∀ (B : Addr → Prop) (H : Hp) (x y : V) (a b d : PyData) (Q : VK), Rp B H x a → Rp B H y b → o a b = some d → (∀ c, B c → H c ≠ none) → (∀ v H', Ex0 H H' → Rp B H' v d → Q v H') → r x y H Q
def UnOk (r : V → Hp → VK → Prop) (o : PyData → Option PyData) : Prop := ∀ (B : Addr → Prop) (H : Hp) (x : V) (a d : PyData) (Q : VK), Rp B H x a → o a = some d → (∀ c, B c → H c ≠ none) → (∀ v H', Ex0 H H' → Rp B H' v d → Q v H') → r x H Q
theorem tOp_of {r : R2} {o : Op2} (ok : OpOk r o) (σ : St) (H : Hp) (Q : VK) (s : tE X.K X.mg W (cBin o f g) σ H Q) : tOp r (tE X.K X.mg W f) (tE X.K X.mg W g) σ H Q := by
  obtain ⟨F, R, A, ρ, rel, s⟩ := s
  refine ⟨F, R, A, ρ, rel, sat_mono (sat_bind s) fun a ρ1 s1 A1 x H1 p1 rel1 r1 => ?_⟩
  refine ⟨F, R, A1, ρ1, rel1, sat_mono (sat_bind s1) fun b ρ2 s2 A2 y H2 p2 rel2 r2 => ?_⟩
  obtain ⟨d, e, q⟩ := sat_lift s2
  exact ok _ _ _ _ _ _ _ _ (r1.stp p2) r2 e rel2.dom fun v H3 x3 r3 => q A2 v H3 ((p1.trans p2).trans x3.stp) (rel2.grow x3) r3
theorem d_bin {op : Operator} {r : R2} {o : Op2} (ho : OpR X (binaryOp op) r) (ok : OpOk r o) (h1 : PE X e1 (tE X.K X.mg W f)) (h2 : PE X e2 (tE X.K X.mg W g)) : PE X (.BinOp e1 op e2 pos) (tE X.K X.mg W (cBin o f g)) :=
  PE.imp (pe_op ho h1 h2) (tOp_of ok)
theorem d_cmp {op : CmpOp} {r : R2} {o : Op2} (ho : OpR X (compareOp op) r) (ok : OpOk r o) (h1 : PE X e1 (tE X.K X.mg W f)) (h2 : PE X e2 (tE X.K X.mg W g)) (hm : behindInMarks op e2 = false) : PE X (.Compare e1 [op] [e2] pos) (tE X.K X.mg W (cBin o f g)) :=
  PE.imp (pe_cmpR ho h1 h2 hm) (tOp_of ok)
theorem tUn_of {r : V → Hp → VK → Prop} {o : PyData → Option PyData} (ok : UnOk r o) (σ : St) (H : Hp) (Q : VK) (s : tE X.K X.mg W (cUn o f) σ H Q) : tUn r (tE X.K X.mg W f) σ H Q := by
  obtain ⟨F, R, A, ρ, rel, s⟩ := s
  refine ⟨F, R, A, ρ, rel, sat_mono (sat_bind s) fun a ρ1 s1 A1 x H1 p1 rel1 r1 => ?_⟩
  obtain ⟨d, e, q⟩ := sat_lift s1
  exact ok _ _ _ _ _ _ r1 e rel1.dom fun v H3 x3 r3 => q A1 v H3 (p1.trans x3.stp) (rel1.grow x3) r3
theorem d_un {op : UnaryOp} {r : V → Hp → VK → Prop} {o : PyData → Option PyData} (ho : UnR X (unaryOp op) r) (ok : UnOk r o) (h1 : PE X e1 (tE X.K X.mg W f)) : PE X (.UnaryOp op e1 pos) (tE X.K X.mg W (cUn o f)) :=
  PE.imp (pe_un ho h1) (tUn_of ok)
theorem OpR.mk {F : Value → Value → Sem Value} {r r' : R2} (a : OpR X F r) (b : OpR X F r') : OpR X F (fun x y H Q => r x y H Q ∨ r' x y H Q) := OpR.or a b

/-! ### the operators' readings -/
theorem okI0 {o : Op2} {w : Int → Int → PyData} {w' : Int → Int → V} (hr : ∀ i j B H, Rp B H (w' i j) (w i j)) (ho : ∀ a b d, o a b = some d → ∃ i j, a = .int i ∧ b = .int j ∧ d = w i j) : OpOk (rI0 w') o := by
  intro B H x y a b d Q ra rb e hB q
  obtain ⟨i, j, rfl, rfl, rfl⟩ := ho a b d e
  cases ra
  cases rb
  exact ⟨i, j, rfl, rfl, q _ H (.refl H) (hr i j _ _)⟩
theorem okI {C : Int → Int → Prop} {o : Op2} {w : Int → Int → PyData} {w' : Int → Int → V} (hr : ∀ i j B H, Rp B H (w' i j) (w i j)) (ho : ∀ a b d, o a b = some d → ∃ i j, a = .int i ∧ b = .int j ∧ d = w i j ∧ C i j) : OpOk (rI C w') o := by
  intro B H x y a b d Q ra rb e hB q
  obtain ⟨i, j, rfl, rfl, rfl, c⟩ := ho a b d e
  cases ra
  cases rb
  exact ⟨i, j, rfl, rfl, c, q _ H (.refl H) (hr i j _ _)⟩
/-- a rule of several -/
theorem OpOk.or1 {r r' : R2} {o : Op2} (h : OpOk r o) : OpOk (fun x y H Q => r x y H Q ∨ r' x y H Q) o := fun B H x y a b d Q ra rb e hB q => .inl (h B H x y a b d Q ra rb e hB q)
theorem ok_sub : OpOk (rI0 fun i j => .int (i - j)) opSub := okI0 (w := fun i j => .int (i - j)) (fun i j _ _ => .int _) fun a b d e => by
  unfold opSub at e
  split at e
  · cases e; exact ⟨_, _, rfl, rfl, rfl⟩
  · cases e
theorem ok_mul : OpOk (rI CMul fun i j => .int (i * j)) opMul := okI (w := fun i j => .int (i * j)) (fun i j _ _ => .int _) fun a b d e => by
  unfold opMul at e
  split at e
  · split at e
    · rename_i i j h
      cases e
      refine ⟨_, _, rfl, rfl, rfl, ?_⟩
      unfold mulOk at h
      simp only [Bool.or_eq_true, Bool.and_eq_true, decide_eq_true_eq] at h
      exact h
    · cases e
  · cases e
theorem ok_div : OpOk (rI CDiv fun i j => .int (i / j)) opDiv := okI (w := fun i j => .int (i / j)) (fun i j _ _ => .int _) fun a b d e => by
  unfold opDiv at e
  split at e
  · split at e
    · rename_i h
      cases e
      exact ⟨_, _, rfl, rfl, rfl, h⟩
    · cases e
  · cases e
theorem ok_mod : OpOk (rI (fun _ j => 0 < j) fun i j => .int (i % j)) opMod := okI (w := fun i j => .int (i % j)) (fun i j _ _ => .int _) fun a b d e => by
  unfold opMod at e
  split at e
  · split at e
    · rename_i h
      cases e
      exact ⟨_, _, rfl, rfl, rfl, h⟩
    · cases e
  · cases e
theorem ok_pow : OpOk (rI CPow fun i j => .int (i ^ j.toNat)) opPow := okI (w := fun i j => .int (i ^ j.toNat)) (fun i j _ _ => .int _) fun a b d e => by
  unfold opPow at e
  split at e
  · split at e
    · rename_i h
      cases e
      exact ⟨_, _, rfl, rfl, rfl, h⟩
    · cases e
  · cases e
theorem ok_ltI : OpOk (rI0 fun i j => .bl (decide (i < j))) (fun a b => match a, b with | .int i, .int j => some (.bool (decide (i < j))) | _, _ => none) := okI0 (w := fun i j => .bool (decide (i < j))) (fun i j _ _ => .bl _) fun a b d e => by
  split at e
  · cases e; exact ⟨_, _, rfl, rfl, rfl⟩
  · cases e
theorem ok_le : OpOk (rI0 fun i j => .bl (decide (i ≤ j))) opLe := okI0 (w := fun i j => .bool (decide (i ≤ j))) (fun i j _ _ => .bl _) fun a b d e => by
  unfold opLe at e
  split at e
  · cases e; exact ⟨_, _, rfl, rfl, rfl⟩
  · cases e
theorem ok_gt : OpOk (rI0 fun i j => .bl (decide (j < i))) opGt := okI0 (w := fun i j => .bool (decide (j < i))) (fun i j _ _ => .bl _) fun a b d e => by
  unfold opGt at e
  split at e
  · cases e; exact ⟨_, _, rfl, rfl, rfl⟩
  · cases e
theorem ok_ge : OpOk (rI0 fun i j => .bl (decide (j ≤ i))) opGe := okI0 (w := fun i j => .bool (decide (j ≤ i))) (fun i j _ _ => .bl _) fun a b d e => by
  unfold opGe at e
  split at e
  · cases e; exact ⟨_, _, rfl, rfl, rfl⟩
  · cases e
theorem lexI_eq : ∀ ns ms : List Int, lexI ns ms = HT.lexLt ns ms
  | [], [] => rfl
  | [], _ :: _ => rfl
  | _ :: _, [] => rfl
  | x :: xs, y :: ys => by
    unfold lexI HT.lexLt
    rw [lexI_eq xs ys]
/-- < of ints, of tuples of ints -/
theorem ok_lt : OpOk (fun x y H Q => rI0 (fun i j => .bl (decide (i < j))) x y H Q ∨ rLtT X.K x y H Q) opLt := by
  intro B H x y a b d Q ra rb e hB q
  unfold opLt at e
  split at e
  · cases e
    cases ra
    cases rb
    exact .inl ⟨_, _, rfl, rfl, q _ H (.refl H) (.bl _)⟩
  · split at e
    · rename_i ns ms e1 e2
      cases e
      cases ra with
      | tup h1 n1 r1 =>
        cases rb with
        | tup h2 n2 r2 =>
          refine .inr ⟨_, _, ns, ms, rfl, rfl, ?_, ?_, ?_⟩
          · rw [← r1.ints e1]; exact SqT.of h1
          · rw [← r2.ints e2]; exact SqT.of h2
          · rw [← lexI_eq]; exact q _ H (.refl H) (.bl _)
    · cases e
  · cases e
theorem eqOk_shaped {a b : PyData} (h : eqOk a b = true) : a.canLay0 = true ∧ b.canLay0 = true ∧ min a.depth b.depth ≤ 64 := by
  unfold eqOk at h
  simp only [Bool.and_eq_true, decide_eq_true_eq] at h
  exact ⟨h.1.1, h.1.2, h.2⟩
/-- == and != of data -/
def rEqM (K : PySem.W.Frag) (neg : Bool) : R2 := fun x y H Q => ∃ d e, Dp K H x d ∧ Dp K H y e ∧ eqOk d e = true ∧ Q (.bl (PyData.eqv d e != neg)) H
theorem op_eqM (hu : X.A.units + 64 < cLine) : OpR X (compareOp .Eq) (rEqM X.K false) := by
  intro pins s σ H x y v u Q I rx ry h
  obtain ⟨d, e, hd, he, sh, q⟩ := h
  obtain ⟨as, r1⟩ := Dp.reads I d x v hd rx
  obtain ⟨bs, r2⟩ := Dp.reads I e y u he ry
  obtain ⟨c1, c2, c3⟩ := eqOk_shaped sh
  refine SeqAt.compareEq_reads r1 r2 c1 c2 (by omega) ⟨.bl _, H, I, rfl, ?_⟩
  rw [show PyData.eqv d e = (PyData.eqv d e != false) by cases PyData.eqv d e <;> rfl]
  exact q
theorem op_neM (hu : X.A.units + 64 < cLine) : OpR X (compareOp .NotEq) (rEqM X.K true) := by
  intro pins s σ H x y v u Q I rx ry h
  obtain ⟨d, e, hd, he, sh, q⟩ := h
  obtain ⟨as, r1⟩ := Dp.reads I d x v hd rx
  obtain ⟨bs, r2⟩ := Dp.reads I e y u he ry
  obtain ⟨c1, c2, c3⟩ := eqOk_shaped sh
  refine SeqAt.compareNe_reads r1 r2 c1 c2 (by omega) ⟨.bl _, H, I, rfl, ?_⟩
  rw [show (!PyData.eqv d e) = (PyData.eqv d e != true) by cases PyData.eqv d e <;> rfl]
  exact q
theorem strsOf_some {a b : PyData} {x y : Str} (h : strsOf a b = some (x, y)) : a = .str x ∧ b = .str y := by
  unfold strsOf at h
  split at h
  · cases h; exact ⟨rfl, rfl⟩
  · cases h
theorem ok_eq : OpOk (fun x y H Q => rEqM X.K false x y H Q ∨ rEq x y H Q) opEq := by
  intro B H x y a b d Q ra rb e hB q
  unfold opEq at e
  split at e
  · rename_i u v hs
    obtain ⟨rfl, rfl⟩ := strsOf_some hs
    cases e
    cases ra
    cases rb
    have e2 : decide (V.str u = V.str v) = decide (u = v) := by
      by_cases h : u = v
      · rw [h]; simp
      · rw [decide_eq_false h, decide_eq_false (fun z => h (by cases z; rfl))]
    exact .inr ⟨rfl, by rw [e2]; exact q _ H (.refl H) (.bl _)⟩
  · split at e
    · rename_i h
      cases e
      refine .inl ⟨a, b, ra.dp, rb.dp, h, ?_⟩
      rw [show (PyData.eqv a b != false) = PyData.eqv a b by cases PyData.eqv a b <;> rfl]
      exact q _ H (.refl H) (.bl _)
    · cases e
theorem ok_ne : OpOk (fun x y H Q => rEqM X.K true x y H Q ∨ rNe x y H Q) opNe := by
  intro B H x y a b d Q ra rb e hB q
  unfold opNe at e
  split at e
  · rename_i u v hs
    obtain ⟨rfl, rfl⟩ := strsOf_some hs
    cases e
    cases ra
    cases rb
    have e2 : decide (V.str u = V.str v) = decide (u = v) := by
      by_cases h : u = v
      · rw [h]; simp
      · rw [decide_eq_false h, decide_eq_false (fun z => h (by cases z; rfl))]
    exact .inr ⟨rfl, by rw [e2]; exact q _ H (.refl H) (.bl _)⟩
  · split at e
    · rename_i h
      cases e
      refine .inl ⟨a, b, ra.dp, rb.dp, h, ?_⟩
      rw [show (PyData.eqv a b != true) = !PyData.eqv a b by cases PyData.eqv a b <;> rfl]
      exact q _ H (.refl H) (.bl _)
    · cases e
/-- the rules, X's room told -/
theorem op_eqA (hu : X.A.units + 64 < cLine) : OpR X (compareOp .Eq) (fun x y H Q => rEqM X.K false x y H Q ∨ rEq x y H Q) := OpR.or (op_eqM hu) op_eq
theorem op_neA (hu : X.A.units + 64 < cLine) : OpR X (compareOp .NotEq) (fun x y H Q => rEqM X.K true x y H Q ∨ rNe x y H Q) := OpR.or (op_neM hu) op_ne
theorem ok_neg : UnOk (rU fun i => .int (-i)) opNeg := by
  intro B H x a d Q ra e hB q
  unfold opNeg at e
  split at e
  · cases e
    cases ra
    exact ⟨_, rfl, q _ H (.refl H) (.int _)⟩
  · cases e

/-! ### and, or, not as values; tests -/
theorem Rp.boolOf {B : Addr → Prop} {H : Hp} {v : V} {d : PyData} {b : Bool} (r : Rp B H v d) (e : boolOf d = some b) : v = .bl b := by
  unfold Mo.boolOf at e
  split at e
  · cases e; cases r; rfl
  · cases e
theorem d_one {op : BoolOp} (h : PE X e (tE X.K X.mg W f)) : PE X (.BoolOp op [e] pos) (tE X.K X.mg W f) := pe_one h
theorem d_and {rest : List Expr} (h1 : PE X e1 (tE X.K X.mg W f)) (h2 : PE X (.BoolOp .And (e2 :: rest) pos) (tE X.K X.mg W g)) : PE X (.BoolOp .And (e1 :: e2 :: rest) pos) (tE X.K X.mg W (cAnd f g)) :=
  PE.imp (pe_and h1 h2) fun σ H Q ⟨F, R, A, ρ, rel, s⟩ => by
    refine ⟨F, R, A, ρ, rel, sat_mono (sat_bind s) fun a ρ1 s1 A1 x H1 p1 rel1 r1 => ?_⟩
    obtain ⟨b, e, s2⟩ := sat_lift (sat_bind s1)
    refine ⟨b, r1.boolOf e, ?_⟩
    cases b with
    | true => exact ⟨F, R, A1, ρ1, rel1, sat_mono s2 fun d ρ2 q A2 v H2 p2 => q A2 v H2 (p1.trans p2)⟩
    | false => exact s2 A1 _ H1 p1 rel1 (.bl false)
theorem d_or {rest : List Expr} (h1 : PE X e1 (tE X.K X.mg W f)) (h2 : PE X (.BoolOp .Or (e2 :: rest) pos) (tE X.K X.mg W g)) : PE X (.BoolOp .Or (e1 :: e2 :: rest) pos) (tE X.K X.mg W (cOr f g)) :=
  PE.imp (pe_or h1 h2) fun σ H Q ⟨F, R, A, ρ, rel, s⟩ => by
    refine ⟨F, R, A, ρ, rel, sat_mono (sat_bind s) fun a ρ1 s1 A1 x H1 p1 rel1 r1 => ?_⟩
    obtain ⟨b, e, s2⟩ := sat_lift (sat_bind s1)
    refine ⟨b, r1.boolOf e, ?_⟩
    cases b with
    | true => exact s2 A1 _ H1 p1 rel1 (.bl true)
    | false => exact ⟨F, R, A1, ρ1, rel1, sat_mono s2 fun d ρ2 q A2 v H2 p2 => q A2 v H2 (p1.trans p2)⟩
theorem d_not (h1 : PE X e1 (tE X.K X.mg W f)) : PE X (.UnaryOp .Not e1 pos) (tE X.K X.mg W (cNot f)) :=
  PE.imp (pe_not h1) fun σ H Q ⟨F, R, A, ρ, rel, s⟩ => by
    refine ⟨F, R, A, ρ, rel, sat_mono (sat_bind s) fun a ρ1 s1 A1 x H1 p1 rel1 r1 => ?_⟩
    obtain ⟨b, e, s2⟩ := sat_lift (sat_bind s1)
    exact ⟨b, r1.boolOf e, s2 A1 _ H1 p1 rel1 (.bl _)⟩
variable {t u : Ts}
theorem tTest_of (σ : St) (H : Hp) (Q : Bool → Hp → Prop) (s : tT X.K X.mg W (tD f) σ H Q) : tTest (tE X.K X.mg W f) σ H Q := by
  obtain ⟨F, R, A, ρ, rel, s⟩ := s
  refine ⟨F, R, A, ρ, rel, sat_mono (sat_bind s) fun a ρ1 s1 A1 x H1 p1 rel1 r1 => ?_⟩
  obtain ⟨b, e, s2⟩ := sat_lift s1
  exact ⟨b, r1.boolOf e, s2 A1 H1 p1 rel1⟩
/-- a comparison as a test -/
theorem dt_cmp {op : CmpOp} {r : R2} {o : Op2} (ho : OpR X (compareOp op) r) (ok : OpOk r o) (h1 : PE X e1 (tE X.K X.mg W f)) (h2 : PE X e2 (tE X.K X.mg W g)) (hm : behindInMarks op e2 = false) : PT X (.Compare e1 [op] [e2] pos) (tT X.K X.mg W (tD (cBin o f g))) :=
  PT.imp (pt_cmpR ho h1 h2 hm) fun σ H Q s => by
    obtain ⟨F, R, A, ρ, rel, s⟩ := s
    refine tOp_of (X := X) (W := W) ok σ H _ ⟨F, R, A, ρ, rel, sat_mono (sat_bind s) fun a ρ1 s1 A1 x H1 p1 rel1 r1 => ?_⟩
    obtain ⟨b, e, s2⟩ := sat_lift s1
    exact ⟨b, r1.boolOf e, s2 A1 H1 p1 rel1⟩
theorem dt_val (h1 : PE X e1 (tE X.K X.mg W f)) (he : ∀ whole, isTrue e1 X.env whole = (do let v ← whole; standAt e1.pos; holding [v] (truthy v)) := by intro _; rfl) : PT X e1 (tT X.K X.mg W (tD f)) :=
  PT.imp (pt_val h1 he) tTest_of
theorem dt_not (h : PT X e (tT X.K X.mg W t)) : PT X (.UnaryOp .Not e pos) (tT X.K X.mg W (tNot t)) :=
  PT.imp (pt_not h) fun σ H Q ⟨F, R, A, ρ, rel, s⟩ => ⟨F, R, A, ρ, rel, sat_mono (sat_bind s) fun b ρ1 s1 A1 H1 p1 rel1 => s1 A1 H1 p1 rel1⟩
theorem dw_and1 (h : PT X e (tT X.K X.mg W t)) : PW X (.BoolOp .And [e] pos) (tT X.K X.mg W t) := pw_and1 h
theorem dw_or1 (h : PT X e (tT X.K X.mg W t)) : PW X (.BoolOp .Or [e] pos) (tT X.K X.mg W t) := pw_or1 h
theorem dw_and {rest : List Expr} (h1 : PT X e1 (tT X.K X.mg W t)) (h2 : PW X (.BoolOp .And (e2 :: rest) pos) (tT X.K X.mg W u)) : PW X (.BoolOp .And (e1 :: e2 :: rest) pos) (tT X.K X.mg W (tAnd t u)) :=
  PW.imp (pw_and h1 h2) fun σ H Q ⟨F, R, A, ρ, rel, s⟩ => ⟨F, R, A, ρ, rel, sat_mono (sat_bind s) fun b ρ1 s1 A1 H1 p1 rel1 => by
    cases b with
    | true => exact ⟨F, R, A1, ρ1, rel1, sat_mono s1 fun d ρ2 q A2 H2 p2 => q A2 H2 (p1.trans p2)⟩
    | false => exact s1 A1 H1 p1 rel1⟩
theorem dw_or {rest : List Expr} (h1 : PT X e1 (tT X.K X.mg W t)) (h2 : PW X (.BoolOp .Or (e2 :: rest) pos) (tT X.K X.mg W u)) : PW X (.BoolOp .Or (e1 :: e2 :: rest) pos) (tT X.K X.mg W (tOr t u)) :=
  PW.imp (pw_or h1 h2) fun σ H Q ⟨F, R, A, ρ, rel, s⟩ => ⟨F, R, A, ρ, rel, sat_mono (sat_bind s) fun b ρ1 s1 A1 H1 p1 rel1 => by
    cases b with
    | true => exact s1 A1 H1 p1 rel1
    | false => exact ⟨F, R, A1, ρ1, rel1, sat_mono s1 fun d ρ2 q A2 H2 p2 => q A2 H2 (p1.trans p2)⟩⟩
theorem dt_bool (h : PW X e (tT X.K X.mg W t)) : PT X e (tT X.K X.mg W t) := h.pt
theorem d_if (h0 : PT X e (tT X.K X.mg W t)) (h1 : PE X e1 (tE X.K X.mg W f)) (h2 : PE X e2 (tE X.K X.mg W g)) : PE X (.IfExp e e1 e2 pos) (tE X.K X.mg W (cIf t f g)) :=
  PE.imp (pe_ifExp h0 h1 h2) fun σ H Q ⟨F, R, A, ρ, rel, s⟩ => ⟨F, R, A, ρ, rel, sat_mono (sat_bind s) fun b ρ1 s1 A1 H1 p1 rel1 => by
    cases b with
    | true => exact ⟨F, R, A1, ρ1, rel1, sat_mono s1 fun d ρ2 q A2 v H2 p2 => q A2 v H2 (p1.trans p2)⟩
    | false => exact ⟨F, R, A1, ρ1, rel1, sat_mono s1 fun d ρ2 q A2 v H2 p2 => q A2 v H2 (p1.trans p2)⟩⟩
end
end Mo
end
section
set_option autoImplicit false
set_option linter.all false
set_option Elab.async false
set_option maxHeartbeats 1000000
/-! MJ2: chains, displays, subscripts, slices, built-in functions. -/
namespace Mo
open PySem L2
section
variable {X : Cx} {W : WX} {e e1 e2 e3 : Expr} {es : List Expr} {f g h : Ex} {l : Ls} {pos : Pos} {i : Nat} {t u : Ts}

/-! ### a < b <= c; is -/
theorem tChain_of {r r' : R2} {o o' : Op2} (ok : OpOk r o) (ok' : OpOk r' o') (σ : St) (H : Hp) (Q : VK) (s : tE X.K X.mg W (cChain o o' f g h) σ H Q) : tChain r r' (tE X.K X.mg W f) (tE X.K X.mg W g) (tE X.K X.mg W h) σ H Q := by
  obtain ⟨F, R, A, ρ, rel, s⟩ := s
  refine ⟨F, R, A, ρ, rel, sat_mono (sat_bind s) fun a ρ1 s1 A1 x H1 p1 rel1 r1 => ?_⟩
  refine ⟨F, R, A1, ρ1, rel1, sat_mono (sat_bind s1) fun b ρ2 s2 A2 y H2 p2 rel2 r2 => ?_⟩
  obtain ⟨d, e, s3⟩ := sat_lift (sat_bind s2)
  refine ok _ _ _ _ _ _ _ _ (r1.stp p2) r2 e rel2.dom fun v H3 x3 r3 => ?_
  obtain ⟨k, ek, s4⟩ := sat_lift (sat_bind s3)
  refine ⟨k, r3.boolOf ek, ?_⟩
  cases k with
  | false => exact s4 A2 _ H3 ((p1.trans p2).trans x3.stp) (rel2.grow x3) (.bl false)
  | true =>
    refine ⟨F, R, A2, ρ2, rel2.grow x3, sat_mono (sat_bind s4) fun c ρ4 s5 A4 z H4 p4 rel4 r4 => ?_⟩
    obtain ⟨d', e', q⟩ := sat_lift s5
    exact ok' _ _ _ _ _ _ _ _ ((r2.ex0 x3).stp p4) r4 e' rel4.dom fun v5 H5 x5 r5 => q A4 v5 H5 (((p1.trans p2).trans x3.stp).trans (p4.trans x5.stp)) (rel4.grow x5) r5
theorem d_chain {op op' : CmpOp} {r r' : R2} {o o' : Op2} (ho : OpR X (compareOp op) r) (ho' : OpR X (compareOp op') r') (ok : OpOk r o) (ok' : OpOk r' o') (h1 : PE X e1 (tE X.K X.mg W f)) (h2 : PE X e2 (tE X.K X.mg W g)) (h3 : PE X e3 (tE X.K X.mg W h))
    (hm : lastMarks [op, op'] [e2, e3] = false := by with_unfolding_all rfl) : PE X (.Compare e1 [op, op'] [e2, e3] pos) (tE X.K X.mg W (cChain o o' f g h)) :=
  PE.imp (pe_chain ho ho' h1 h2 h3 hm) (tChain_of ok ok')
theorem dt_chain {op op' : CmpOp} {r r' : R2} {o o' : Op2} (ho : OpR X (compareOp op) r) (ho' : OpR X (compareOp op') r') (ok : OpOk r o) (ok' : OpOk r' o') (h1 : PE X e1 (tE X.K X.mg W f)) (h2 : PE X e2 (tE X.K X.mg W g)) (h3 : PE X e3 (tE X.K X.mg W h))
    (hm : lastMarks [op, op'] [e2, e3] = false := by with_unfolding_all rfl) : PT X (.Compare e1 [op, op'] [e2, e3] pos) (tT X.K X.mg W (tD (cChain o o' f g h))) :=
  PT.imp (pt_chain ho ho' h1 h2 h3 hm) fun σ H Q s => by
    obtain ⟨F, R, A, ρ, rel, s⟩ := s
    refine tChain_of (X := X) (W := W) ok ok' σ H _ ⟨F, R, A, ρ, rel, sat_mono (sat_bind s) fun a ρ1 s1 A1 x H1 p1 rel1 r1 => ?_⟩
    obtain ⟨b, e, s2⟩ := sat_lift s1
    exact ⟨b, r1.boolOf e, s2 A1 H1 p1 rel1⟩
theorem Rp.isNone {B : Addr → Prop} {H : Hp} {v : V} {d : PyData} (r : Rp B H v d) : decide (v = .non) = isNone d := by
  cases r <;> first | rfl | exact decide_eq_false (fun z => nomatch z)
theorem tIsN_of (σ : St) (H : Hp) (Q : VK) (s : tE X.K X.mg W (cUn (opIsN false) f) σ H Q) : tIsN (tE X.K X.mg W f) σ H Q := by
  obtain ⟨F, R, A, ρ, rel, s⟩ := s
  refine ⟨F, R, A, ρ, rel, sat_mono (sat_bind s) fun a ρ1 s1 A1 x H1 p1 rel1 r1 => ?_⟩
  obtain ⟨d, e, q⟩ := sat_lift s1
  cases e
  have q' := q A1 (.bl (decide (x = .non))) H1 p1 rel1
  rw [r1.isNone] at q' ⊢
  refine q' ?_
  rw [Bool.bne_false]
  exact .bl _
theorem tNotN_of (σ : St) (H : Hp) (Q : VK) (s : tE X.K X.mg W (cUn (opIsN true) f) σ H Q) : tNotN (tE X.K X.mg W f) σ H Q := by
  obtain ⟨F, R, A, ρ, rel, s⟩ := s
  refine ⟨F, R, A, ρ, rel, sat_mono (sat_bind s) fun a ρ1 s1 A1 x H1 p1 rel1 r1 => ?_⟩
  obtain ⟨d, e, q⟩ := sat_lift s1
  cases e
  have q' := q A1 (.bl (!decide (x = .non))) H1 p1 rel1
  rw [r1.isNone] at q' ⊢
  refine q' ?_
  rw [Bool.bne_true]
  exact .bl _
theorem d_isN {j : Nat} {p : Pos} (h1 : PE X e1 (tE X.K X.mg W f)) : PE X (.Compare e1 [.Is] [.Constant .none j p] pos) (tE X.K X.mg W (cUn (opIsN false) f)) := PE.imp (pe_cmp (pc_isN h1)) tIsN_of
theorem d_notN {j : Nat} {p : Pos} (h1 : PE X e1 (tE X.K X.mg W f)) : PE X (.Compare e1 [.IsNot] [.Constant .none j p] pos) (tE X.K X.mg W (cUn (opIsN true) f)) := PE.imp (pe_cmp (pc_notN h1)) tNotN_of
theorem tB_of {t' : TE} {f : Ex} (k : ∀ σ H Q, tE X.K X.mg W f σ H Q → t' σ H Q) (σ : St) (H : Hp) (Q : Bool → Hp → Prop) (s : tT X.K X.mg W (tD f) σ H Q) : tB t' σ H Q := by
  obtain ⟨F, R, A, ρ, rel, s⟩ := s
  refine k σ H _ ⟨F, R, A, ρ, rel, sat_mono (sat_bind s) fun a ρ1 s1 A1 x H1 p1 rel1 r1 => ?_⟩
  obtain ⟨b, e, s2⟩ := sat_lift s1
  exact ⟨b, r1.boolOf e, s2 A1 H1 p1 rel1⟩
theorem dt_isN {j : Nat} {p : Pos} (h1 : PE X e1 (tE X.K X.mg W f)) : PT X (.Compare e1 [.Is] [.Constant .none j p] pos) (tT X.K X.mg W (tD (cUn (opIsN false) f))) := PT.imp (pt_cmp (pc_isN h1)) (tB_of tIsN_of)
theorem dt_notN {j : Nat} {p : Pos} (h1 : PE X e1 (tE X.K X.mg W f)) : PT X (.Compare e1 [.IsNot] [.Constant .none j p] pos) (tT X.K X.mg W (tD (cUn (opIsN true) f))) := PT.imp (pt_cmp (pc_notN h1)) (tB_of tNotN_of)
theorem ok_isB : OpOk (fun x y H Q => ∃ a b, x = .bl a ∧ y = .bl b ∧ Q (.bl (decide (a = b))) H) (opIsB false) := by
  intro B H x y a b d Q ra rb e hB q
  unfold opIsB at e
  split at e
  · cases e
    cases ra
    cases rb
    refine ⟨_, _, rfl, rfl, ?_⟩
    refine q _ H (.refl H) ?_
    rw [Bool.bne_false, Bool.beq_eq_decide_eq]
    exact .bl _
  · cases e
theorem ok_isnotB : OpOk (fun x y H Q => ∃ a b, x = .bl a ∧ y = .bl b ∧ Q (.bl (!decide (a = b))) H) (opIsB true) := by
  intro B H x y a b d Q ra rb e hB q
  unfold opIsB at e
  split at e
  · cases e
    cases ra
    cases rb
    refine ⟨_, _, rfl, rfl, ?_⟩
    refine q _ H (.refl H) ?_
    rw [Bool.bne_true, Bool.beq_eq_decide_eq]
    exact .bl _
  · cases e

/-! ### arguments and displays -/
variable {ds : Ls} {as : As}
theorem dd_nil : PA X [] (tDs X.K X.mg W dNil) := PA.imp pa_nil fun σ H Q ⟨F, R, A, ρ, rel, s⟩ => s A [] H (.refl A H) rel .nil
theorem dd_cons (h1 : PE X e (tE X.K X.mg W f)) (h2 : PA X es (tDs X.K X.mg W ds)) (hs : starEach (e :: es) X.env = (false, eval e X.env) :: starEach es X.env := by rfl) : PA X (e :: es) (tDs X.K X.mg W (dCons f ds)) :=
  PA.imp (pa_cons h1 h2 hs) fun σ H Q ⟨F, R, A, ρ, rel, s⟩ => by
    refine ⟨F, R, A, ρ, rel, sat_mono (sat_bind s) fun a ρ1 s1 A1 x H1 p1 rel1 r1 => ?_⟩
    refine ⟨F, R, A1, ρ1, rel1, sat_mono (sat_bind s1) fun b ρ2 s2 A2 ys H2 p2 rel2 r2 => ?_⟩
    exact s2 A2 _ H2 (p1.trans p2) rel2 (.cons (r1.stp p2) r2)
theorem da_nil : PA X [] (tAs X.K X.mg W aNil) := PA.imp pa_nil fun σ H Q ⟨F, R, A, ρ, rel, s⟩ => s A [] H (.refl A H) rel .nil
theorem ArgsR.stp {K : PySem.W.Frag} {mg : Str → Option Value} {R : Addr → Prop} {A A' : Nat → List Addr} {H H' : Hp} (x : Stp A H A' H') {vs : List V} {svs : List SV} (h : ArgsR K mg (Bd R A) H vs svs) : ArgsR K mg (Bd R A') H' vs svs :=
  Paired.mapP h fun v sv z => by
    cases sv with
    | dat d => exact Rp.stp x z
    | fnv y => exact z
    | own _ => exact z
    | dI _ => exact z
    | dP kvs =>
      obtain ⟨a, o, ws, e, hH, n, r⟩ := z
      have w := x.back hH fun i q => n (.inr ⟨i, q⟩)
      exact ⟨a, o, ws, e, w.1, fun z => z.elim (fun q => n (.inl q)) fun ⟨i, q⟩ => w.2 i q, Paired.mapP r fun _ _ z => ⟨z.1, z.2.stp x⟩⟩
    | dL _ => exact z
    | scr ns =>
      obtain ⟨a, e, q | ⟨q, n⟩⟩ := z
      · exact ⟨a, e, .inl q⟩
      · have key : ∀ o, H a = some o → H' a = some o ∧ ¬ Bd R A' a := fun o eo => by
          have w := x.back eo fun i q => n (.inr ⟨i, q⟩)
          exact ⟨w.1, fun z => z.elim (fun q => n (.inl q)) fun ⟨i, q⟩ => w.2 i q⟩
        rcases q with q | ⟨o, q⟩
        · exact ⟨a, e, .inr ⟨.inl (key _ q).1, (key _ q).2⟩⟩
        · exact ⟨a, e, .inr ⟨.inr ⟨o, (key _ q).1⟩, (key _ q).2⟩⟩
/-- the script as an argument -/
def aS (i : Nat) (r : As) : As := fun ρ => match ρ[i]? with
  | some (some (.scr ns)) => (r ρ).bind fun s ρ => .ok (.scr ns :: s) ρ
  | _ => .stuck
theorem da_scr (h1 : PE X e (tVar i)) (h2 : PA X es (tAs X.K X.mg W as)) (hs : starEach (e :: es) X.env = (false, eval e X.env) :: starEach es X.env := by rfl) : PA X (e :: es) (tAs X.K X.mg W (aS i as)) :=
  PA.imp (pa_cons h1 h2 hs) fun σ H Q ⟨F, R, A, ρ, rel, s⟩ => by
    unfold aS at s
    split at s
    · rename_i ns e1
      obtain ⟨v, e2, a, rfl, z⟩ := rel.sl i _ e1
      refine ⟨_, e2, F, R, A, ρ, rel, sat_mono (sat_bind s) fun b ρ2 s2 A2 ys H2 p2 rel2 r2 => ?_⟩
      have k : ArgsR X.K X.mg (Bd R A) H [.ref a] [.scr ns] := .cons ⟨a, rfl, z⟩ .nil
      have k2 := k.stp p2
      cases k2 with
      | cons k2 _ => exact s2 A2 _ H2 p2 rel2 (.cons k2 r2)
    · exact s.elim
/-- such a dict as an argument -/
def aKP (i : Nat) (r : As) : As := fun ρ => match ρ[i]? with
  | some (some (.dP kvs)) => (r ρ).bind fun s ρ => .ok (.dP kvs :: s) ρ
  | _ => .stuck
theorem da_kp (h1 : PE X e (tVar i)) (h2 : PA X es (tAs X.K X.mg W as)) (hs : starEach (e :: es) X.env = (false, eval e X.env) :: starEach es X.env := by rfl) : PA X (e :: es) (tAs X.K X.mg W (aKP i as)) :=
  PA.imp (pa_cons h1 h2 hs) fun σ H Q ⟨F, R, A, ρ, rel, s⟩ => by
    unfold aKP at s
    split at s
    · rename_i kvs e1
      obtain ⟨v, e2, a, o, ws, rfl, hH, n, r⟩ := rel.sl i _ e1
      refine ⟨_, e2, F, R, A, ρ, rel, sat_mono (sat_bind s) fun b ρ2 s2 A2 ys H2 p2 rel2 r2 => ?_⟩
      have k : ArgsR X.K X.mg (Bd R A) H [.ref a] [.dP kvs] := .cons ⟨a, o, ws, rfl, hH, n, r⟩ .nil
      have k2 := k.stp p2
      cases k2 with
      | cons k2 _ => exact s2 A2 _ H2 p2 rel2 (.cons k2 r2)
    · exact s.elim
theorem da_dat (h1 : PE X e (tE X.K X.mg W f)) (h2 : PA X es (tAs X.K X.mg W as)) (hs : starEach (e :: es) X.env = (false, eval e X.env) :: starEach es X.env := by rfl) : PA X (e :: es) (tAs X.K X.mg W (aD f as)) :=
  PA.imp (pa_cons h1 h2 hs) fun σ H Q ⟨F, R, A, ρ, rel, s⟩ => by
    refine ⟨F, R, A, ρ, rel, sat_mono (sat_bind s) fun a ρ1 s1 A1 x H1 p1 rel1 r1 => ?_⟩
    refine ⟨F, R, A1, ρ1, rel1, sat_mono (sat_bind s1) fun b ρ2 s2 A2 ys H2 p2 rel2 r2 => ?_⟩
    exact s2 A2 _ H2 (p1.trans p2) rel2 (.cons (r1.stp p2) r2)
/-- a def of the module as an argument -/
theorem da_fn {x : Str} {fa : Addr} {p : Pos} (hg : Gl X x) (hm : X.mg x = some (.ref fa)) (h2 : PA X es (tAs X.K X.mg W as)) (hd : (x == ("__debug__" : Str)) = false := by decide) (hs : starEach (.Name x p :: es) X.env = (false, eval (.Name x p) X.env) :: starEach es X.env := by rfl) :
    PA X (.Name x p :: es) (tAs X.K X.mg W (aF x as)) :=
  PA.imp (pa_cons (pe_glob (v := .ref fa) hg hm rfl hd) h2 hs) fun σ H Q ⟨F, R, A, ρ, rel, s⟩ => by
    refine ⟨F, R, A, ρ, rel, sat_mono (sat_bind s) fun b ρ2 s2 A2 ys H2 p2 rel2 r2 => ?_⟩
    exact s2 A2 _ H2 p2 rel2 (.cons ⟨fa, rfl, hm⟩ r2)
theorem lenOk_le {xs : List PyData} (h : lenOk xs = true) : xs.length ≤ sizeLine := of_decide_eq_true h
theorem Rel.fresh {K : PySem.W.Frag} {mg : Str → Option Value} {F : Fm} {R : Addr → Prop} {A : Nat → List Addr} {ρ : En} {σ : St} {H : Hp} {p : Addr} (h : Rel K mg F R A ρ σ H) (hp : H p = none) : ¬ Bd R A p ∧ F.H0 p = none := by
  refine ⟨fun z => h.dom p z hp, ?_⟩
  cases e : F.H0 p with
  | none => rfl
  | some o => exact absurd hp (h.frd p (by rw [e]; exact fun z => nomatch z))
/-- a new tuple -/
theorem fin_tup {K : PySem.W.Frag} {mg : Str → Option Value} {F : Fm} {R : Addr → Prop} {A : Nat → List Addr} {ρ : En} {σ : St} {H : Hp} {p : Addr} {vs : List V} {xs : List PyData} (rel : Rel K mg F R A ρ σ H) (r : RpAll (Bd R A) H vs xs) (hp : H p = none) :
    Rel K mg F R A ρ σ (upd H p (.tup vs)) ∧ Rp (Bd R A) (upd H p (.tup vs)) (.ref p) (.tuple xs) :=
  ⟨rel.grow (Ex0.new hp), .tup upd_same (rel.fresh hp).1 (r.ex0 (Ex0.new hp))⟩
theorem fin_lst {K : PySem.W.Frag} {mg : Str → Option Value} {F : Fm} {R : Addr → Prop} {A : Nat → List Addr} {ρ : En} {σ : St} {H : Hp} {p : Addr} {vs : List V} {xs : List PyData} (rel : Rel K mg F R A ρ σ H) (r : RpAll (Bd R A) H vs xs) (hp : H p = none) :
    Rel K mg F (fun a => R a ∨ a = p) A ρ σ (upd H p (.lst vs)) ∧ RpAll (Bd (fun a => R a ∨ a = p) A) (upd H p (.lst vs)) vs xs := by
  refine ⟨rel.guard hp, (r.protect hp).imp (fun a z => ?_) fun a o e _ => Ex0.new hp a o e⟩
  rcases z with (z | z) | z
  · exact .inl (.inl z)
  · exact .inr z
  · exact .inl (.inr z)
theorem d_tup {k : Nat} (h1 : PA X es (tDs X.K X.mg W ds)) : PE X (.Tuple es k pos) (tE X.K X.mg W (cTup ds)) :=
  PE.imp (pe_tup h1) fun σ H Q ⟨F, R, A, ρ, rel, s⟩ => by
    refine ⟨F, R, A, ρ, rel, sat_mono (sat_bind s) fun xs ρ1 s1 A1 vs H1 p1 rel1 r1 => ?_⟩
    split at s1
    · rename_i hl
      refine ⟨by rw [r1.length]; exact lenOk_le hl, fun p hp => ?_⟩
      obtain ⟨a, b⟩ := fin_tup rel1 r1 hp
      exact s1 A1 _ _ (p1.trans (Ex0.new hp).stp) a b
    · exact s1.elim
theorem n_lst (h1 : PA X es (tDs X.K X.mg W ds)) : PE X (.List es pos) (tN X.K X.mg W (nLst ds)) :=
  PE.imp (pe_lst h1) fun σ H Q ⟨F, R, A, ρ, rel, s⟩ => by
    refine ⟨F, R, A, ρ, rel, sat_mono (sat_bind s) fun xs ρ1 s1 A1 vs H1 p1 rel1 r1 => ?_⟩
    split at s1
    · rename_i hl
      refine ⟨by rw [r1.length]; exact lenOk_le hl, fun p hp => ?_⟩
      obtain ⟨a, b⟩ := fin_lst rel1 r1 hp
      have hp0 : H p = none := by
        cases q : H p with
        | none => rfl
        | some o => exact absurd hp (p1.ext.2 p (by rw [q]; exact fun z => nomatch z))
      exact s1 A1 p vs _ (p1.trans (Ex0.new hp).stp) a (rel1.fresh hp).1 hp0 (rel1.fresh hp).2 upd_same b
    · exact s1.elim
/-- a new list as data -/
theorem d_new (h1 : PE X e (tN X.K X.mg W l)) : PE X e (tE X.K X.mg W (cN l)) :=
  PE.imp h1 fun σ H Q ⟨F, R, A, ρ, rel, s⟩ => by
    refine ⟨F, R, A, ρ, rel, sat_mono (sat_bind s) fun xs ρ1 s1 A1 p vs H1 p1 rel1 hn _ _ hl r1 => ?_⟩
    have hB : ∀ a, Bd R A1 a → Bd (fun a => R a ∨ a = p) A1 a := fun a z => z.elim (fun q => .inl (.inl q)) .inr
    exact s1 A1 _ H1 p1 (rel1.less fun a z => .inl z) (.lst hl hn (r1.imp hB fun _ _ e _ => e))
/-- a new list, looked at -/
theorem l_new {b c : Bool} (h1 : PE X e (tN X.K X.mg W l)) : PE X e (tL X.K X.mg W b c l) :=
  PE.imp h1 fun σ H Q ⟨F, R, A, ρ, rel, s⟩ => by
    refine ⟨F, R, A, ρ, rel, sat_mono s fun xs ρ1 s1 A1 p vs H1 p1 rel1 hn _ _ hl r1 => ?_⟩
    have hB : ∀ a, Bd R A1 a → Bd (fun a => R a ∨ a = p) A1 a := fun a z => z.elim (fun q => .inl (.inl q)) .inr
    refine s1 A1 _ H1 p1 (rel1.less fun a z => .inl z) ⟨p, vs, rfl, r1.imp hB fun _ _ e _ => e, .inl ⟨SqL.of hl, fun _ A2 H2 p2 => SqL.of (p2.back hl fun i z => hn (.inr ⟨i, z⟩)).1⟩⟩
/-- a list or a tuple of the data, looked at -/
theorem l_dat {b : Bool} (h1 : PE X e (tE X.K X.mg W f)) : PE X e (tL X.K X.mg W b true (lD f)) :=
  PE.imp h1 fun σ H Q ⟨F, R, A, ρ, rel, s⟩ => by
    refine ⟨F, R, A, ρ, rel, sat_mono (sat_bind s) fun d ρ1 s1 A1 v H1 p1 rel1 r1 => ?_⟩
    obtain ⟨xs, e, q⟩ := sat_lift s1
    cases r1 with
    | lst h n r =>
      cases e
      exact q A1 _ H1 p1 rel1 ⟨_, _, rfl, r, .inl ⟨SqL.of h, fun _ A2 H2 p2 => SqL.of (p2.back h fun i z => n (.inr ⟨i, z⟩)).1⟩⟩
    | tup h n r =>
      cases e
      exact q A1 _ H1 p1 rel1 ⟨_, _, rfl, r, .inr ⟨rfl, h, n⟩⟩
    | _ => cases e
theorem l_datL {b c : Bool} (h1 : PE X e (tE X.K X.mg W f)) : PE X e (tL X.K X.mg W b c (lDl f)) :=
  PE.imp h1 fun σ H Q ⟨F, R, A, ρ, rel, s⟩ => by
    refine ⟨F, R, A, ρ, rel, sat_mono (sat_bind s) fun d ρ1 s1 A1 v H1 p1 rel1 r1 => ?_⟩
    obtain ⟨xs, e, q⟩ := sat_lift s1
    cases r1 with
    | lst h n r =>
      cases e
      exact q A1 _ H1 p1 rel1 ⟨_, _, rfl, r, .inl ⟨SqL.of h, fun _ A2 H2 p2 => SqL.of (p2.back h fun i z => n (.inr ⟨i, z⟩)).1⟩⟩
    | _ => cases e
theorem at_own {ρ : En} {P : List PyData → En → Prop} {W' : Exn → En → Prop} (h : sat W' P (lV i ρ)) : ∃ xs, ρ[i]? = some (some (.own xs)) ∧ P xs ρ := by
  unfold lV at h
  split at h
  · rename_i d e
    exact ⟨d, e, h⟩
  · exact h.elim
theorem at_scr {ρ : En} {P : List PyData → En → Prop} {W' : Exn → En → Prop} (h : sat W' P (lS i ρ)) : ∃ ns, ρ[i]? = some (some (.scr ns)) ∧ P (ns.map .int) ρ := by
  unfold lS at h
  split at h
  · rename_i d e
    exact ⟨d, e, h⟩
  · exact h.elim
theorem Rel.own {K : PySem.W.Frag} {mg : Str → Option Value} {F : Fm} {R : Addr → Prop} {A : Nat → List Addr} {ρ : En} {σ : St} {H : Hp} {xs : List PyData} (h : Rel K mg F R A ρ σ H) (e : ρ[i]? = some (some (.own xs))) :
    ∃ a vs, σ[i]? = some (some (.ref a)) ∧ A i = [a] ∧ H a = some (.lst vs) ∧ RpAll (Bd R A) H vs xs := by
  obtain ⟨v, e1, a, vs, ea, rfl, e2, r⟩ := h.sl i _ e
  exact ⟨a, vs, e1, ea, e2, r⟩
theorem l_own {c : Bool} (h1 : PE X e (tVar i)) : PE X e (tL X.K X.mg W false c (lV i)) :=
  PE.imp h1 fun σ H Q ⟨F, R, A, ρ, rel, s⟩ => by
    obtain ⟨xs, e1, q⟩ := at_own s
    obtain ⟨a, vs, e2, ea, e3, r⟩ := rel.own e1
    exact ⟨_, e2, q A _ H (.refl A H) rel ⟨a, vs, rfl, r, .inl ⟨SqL.of e3, fun z => nomatch z⟩⟩⟩
theorem l_scr {b c : Bool} (h1 : PE X e (tVar i)) : PE X e (tL X.K X.mg W b c (lS i)) :=
  PE.imp h1 fun σ H Q ⟨F, R, A, ρ, rel, s⟩ => by
    obtain ⟨ns, e1, q⟩ := at_scr s
    obtain ⟨v, e2, a, rfl, z⟩ := rel.sl i _ e1
    refine ⟨_, e2, q A _ H (.refl A H) rel ?_⟩
    rcases z with z | ⟨z, n⟩
    · exact ⟨a, _, rfl, rpAll_ints ns, .inl ⟨sqL_keep z (fun o e => (nomatch e)), fun _ A2 H2 p2 => sqL_keep z (fun o e => (nomatch e))⟩⟩
    · refine ⟨a, _, rfl, rpAll_ints ns, .inl ⟨.inl z, fun _ A2 H2 p2 => sqL_keep (.inl z) fun o e => (p2.back e fun i q => n (.inr ⟨i, q⟩)).1⟩⟩
end
end Mo
end
section
set_option autoImplicit false
set_option linter.all false
set_option Elab.async false
set_option maxHeartbeats 1000000
/-! MJ3: subscripts, slices, built-in functions, ranges. -/
namespace Mo
open PySem L2
section
variable {X : Cx} {W : WX} {e e1 e2 e3 : Expr} {es : List Expr} {f g h : Ex} {l : Ls} {pos p p2 p3 p4 : Pos} {i k : Nat} {t u : Ts} {b c : Bool}

/-! ### subscripts -/
theorem ixAt_eq (n : Nat) (i : Int) : ixAt n i = ixN n i := rfl
theorem item_get {B : Addr → Prop} {H : Hp} {vs : List V} {xs : List PyData} {z : Int} {d : PyData} (r : RpAll B H vs xs) (e : itemAt xs z = some d) : ∃ v, atI vs z = some v ∧ Rp B H v d := by
  unfold itemAt at e
  rw [Option.bind_eq_some_iff] at e
  obtain ⟨j, e1, e2⟩ := e
  obtain ⟨v, e3, r1⟩ := r.get e2
  refine ⟨v, ?_, r1⟩
  unfold atI
  rw [r.length, ← ixAt_eq, e1]
  exact e3
theorem ok_ix : OpOk (fun x y H Q => rIxL X.K x y H Q ∨ rIxT X.K x y H Q) opIx := by
  intro B H x y a k d Q ra rb e hB q
  unfold opIx at e
  split at e
  · cases rb
    cases ra with
    | lst h n r =>
      obtain ⟨v, e1, r1⟩ := item_get r e
      exact .inl ⟨_, _, _, v, rfl, rfl, SqL.of h, e1, q v H (.refl H) r1⟩
  · cases rb
    cases ra with
    | tup h n r =>
      obtain ⟨v, e1, r1⟩ := item_get r e
      exact .inr ⟨_, _, _, v, rfl, rfl, SqT.of h, e1, q v H (.refl H) r1⟩
  · cases e
theorem d_ix (h1 : PE X e1 (tE X.K X.mg W f)) (h2 : PE X e2 (tE X.K X.mg W g)) (hs : PlainIx e2) : PE X (.Subscript e1 e2 pos) (tE X.K X.mg W (cBin opIx f g)) :=
  PE.imp (pe_ix (IxR.or ix_list ix_tup) h1 h2 hs) (tOp_of ok_ix)
theorem d_ixO (h1 : PE X e1 (tVar i)) (h2 : PE X e2 (tE X.K X.mg W g)) (hs : PlainIx e2) : PE X (.Subscript e1 e2 pos) (tE X.K X.mg W (cIxO i g)) :=
  PE.imp (pe_ix ix_list h1 h2 hs) fun σ H Q ⟨F, R, A, ρ, rel, s⟩ => by
    obtain ⟨xs, e1, s⟩ := at_own (sat_bind s)
    obtain ⟨a, vs, e2, ea, e3, r⟩ := rel.own e1
    refine ⟨_, e2, F, R, A, ρ, rel, sat_mono (sat_bind s) fun k ρ1 s1 A1 y H1 p1 rel1 rk => ?_⟩
    obtain ⟨ys, e4, s2⟩ := at_own (sat_bind s1)
    obtain ⟨a', ws, e5, eb, e6, r6⟩ := rel1.own e4
    rw [e2] at e5
    cases e5
    split at s2
    · obtain ⟨d, e7, q⟩ := sat_lift s2
      cases rk
      obtain ⟨v, e8, r8⟩ := item_get r6 e7
      exact ⟨a, ws, _, v, rfl, rfl, SqL.of e6, e8, q A1 v H1 p1 rel1 r8⟩
    · exact s2.elim
theorem d_ixS (h1 : PE X e1 (tVar i)) (h2 : PE X e2 (tE X.K X.mg W g)) (hs : PlainIx e2) : PE X (.Subscript e1 e2 pos) (tE X.K X.mg W (cIxS i g)) :=
  PE.imp (pe_ix ix_list h1 h2 hs) fun σ H Q ⟨F, R, A, ρ, rel, s⟩ => by
    obtain ⟨xs, e1, s⟩ := at_scr (sat_bind s)
    obtain ⟨v0, e2, a, rfl, z0⟩ := rel.sl i _ e1
    refine ⟨_, e2, F, R, A, ρ, rel, sat_mono (sat_bind s) fun k ρ1 s1 A1 y H1 p1 rel1 rk => ?_⟩
    obtain ⟨ys, e4, s2⟩ := at_scr (sat_bind s1)
    obtain ⟨v1, e5, a', rfl, z⟩ := rel1.sl i _ e4
    rw [e2] at e5
    cases e5
    have hq : SqL X.K H1 a (ys.map V.int) := by
      rcases z with z | ⟨z, n⟩
      · exact sqL_keep z fun o e => (nomatch e)
      · exact .inl z
    split at s2
    · obtain ⟨d, e7, q⟩ := sat_lift s2
      cases rk
      obtain ⟨v, e8, r8⟩ := item_get (rpAll_ints (B := Bd R A1) (H := H1) ys) e7
      exact ⟨a, _, _, v, rfl, rfl, hq, e8, q A1 v H1 p1 rel1 r8⟩
    · exact s2.elim

/-! ### slices -/
variable {lo hi : Os} {el eh : Option Expr}
theorem o_none : PO X none (tOo X.K X.mg W oNone) := ⟨fun pins s σ H Q I ⟨F, R, A, ρ, rel, z⟩ => po_none.run pins s σ H Q I (z A H (.refl A H) rel)⟩
theorem o_some (h1 : PE X e (tE X.K X.mg W f)) : PO X (some e) (tOo X.K X.mg W (oSome f)) := ⟨fun pins s σ H Q I ⟨F, R, A, ρ, rel, z⟩ => (po_some h1).run pins s σ H Q I
  ⟨F, R, A, ρ, rel, sat_mono (sat_bind z) fun d ρ1 s1 A1 v H1 p1 rel1 r1 => by
    split at s1
    · cases r1
      exact ⟨_, rfl, s1 A1 H1 p1 rel1⟩
    · exact s1.elim⟩⟩
theorem sIx_eq (n d : Nat) (o : Option Int) : sIx n d o = HT.sIx n d o := by cases o <;> rfl
theorem RpAll.cut {B : Addr → Prop} {H : Hp} {vs : List V} {xs : List PyData} (r : RpAll B H vs xs) (a b : Option Int) : RpAll B H (cutV vs a b) (Mo.cut xs a b) := by
  unfold cutV Mo.cut
  rw [r.length, sIx_eq, sIx_eq]
  exact RpAll.take _ (RpAll.drop _ r)
/-- a slice of a list or a tuple, as data -/
theorem d_sl (h1 : PE X e (tE X.K X.mg W f)) (hl : PO X el (tOo X.K X.mg W lo)) (hh : PO X eh (tOo X.K X.mg W hi)) : PE X (.Subscript e (.Slice el eh none p) pos) (tE X.K X.mg W (cSl f lo hi)) :=
  PE.imp (pe_slice (SlR.or sl_list sl_tupA) h1 hl hh) fun σ H Q ⟨F, R, A, ρ, rel, s⟩ => by
    refine ⟨F, R, A, ρ, rel, sat_mono (sat_bind s) fun d ρ1 s1 A1 x H1 p1 rel1 r1 => ?_⟩
    refine ⟨F, R, A1, ρ1, rel1, sat_mono (sat_bind s1) fun a ρ2 s2 A2 H2 p2 rel2 => ?_⟩
    refine ⟨F, R, A2, ρ2, rel2, sat_mono (sat_bind s2) fun b ρ3 s3 A3 H3 p3 rel3 => ?_⟩
    have r3 := (r1.stp p2).stp p3
    split at s3
    · cases r3 with
      | @lst ad vs _ h n r =>
        refine .inl ⟨_, _, rfl, SqL.of h, fun q hq => ?_⟩
        have x3 : Ex0 H3 (upd H3 q (.lst (cutV vs a b))) := Ex0.new hq
        exact s3 A3 _ _ (((p1.trans p2).trans p3).trans x3.stp) (rel3.grow x3) (.lst upd_same (rel3.fresh hq).1 ((r.cut a b).ex0 x3))
    · rename_i ys
      cases r3 with
      | @tup ad vs _ h n r =>
        refine .inr ⟨_, _, rfl, SqT.of h, fun hw => ?_, fun _ q hq => ?_⟩
        · have ec : Mo.cut ys a b = ys := by
            unfold Mo.cut
            rw [sIx_eq, sIx_eq]
            have hn := r.length
            rw [hn] at hw
            rw [hw.1, hw.2]
            simp
          rw [ec] at s3
          exact s3 A3 _ H3 ((p1.trans p2).trans p3) rel3 (.tup h n r)
        · have x3 : Ex0 H3 (upd H3 q (.tup (cutV vs a b))) := Ex0.new hq
          exact s3 A3 _ _ (((p1.trans p2).trans p3).trans x3.stp) (rel3.grow x3) (.tup upd_same (rel3.fresh hq).1 ((r.cut a b).ex0 x3))
    · exact s3.elim
theorem n_rev {p1 : Pos} (h1 : PE X e (tE X.K X.mg W f)) : PE X (.Subscript e (.Slice none none (some (.UnaryOp .USub (.Constant (.int 1) k p1) p2)) p3) pos) (tN X.K X.mg W (nRev f)) :=
  PE.imp (pe_revL h1) fun σ H Q ⟨F, R, A, ρ, rel, s⟩ => by
    refine ⟨F, R, A, ρ, rel, sat_mono (sat_bind s) fun d ρ1 s1 A1 x H1 p1 rel1 r1 => ?_⟩
    split at s1
    · cases r1 with
      | lst h n r =>
        refine ⟨_, _, rfl, SqL.of h, fun q hq => ?_⟩
        obtain ⟨x1, x2⟩ := fin_lst rel1 r.reverse hq
        have hp0 : H q = none := by
          cases z : H q with
          | none => rfl
          | some o => exact absurd hq (p1.ext.2 q (by rw [z]; exact fun z => (nomatch z)))
        exact s1 A1 q _ _ (p1.trans (Ex0.new hq).stp) x1 (rel1.fresh hq).1 hp0 (rel1.fresh hq).2 upd_same x2
    · exact s1.elim

/-! ### built-in functions of one list -/
theorem stp_none {A A' : Nat → List Addr} {H H' : Hp} {q : Addr} (x : Stp A H A' H') (h : H' q = none) : H q = none := by
  cases z : H q with
  | none => rfl
  | some o => exact absurd h (x.ext.2 q (by rw [z]; exact fun z => (nomatch z)))
theorem Lk.seq {K : PySem.W.Frag} {R : Addr → Prop} {A : Nat → List Addr} {H : Hp} {v : V} {xs : List PyData} (h : Lk K b c R A H v xs) : ∃ a vs, v = .ref a ∧ RpAll (Bd R A) H vs xs ∧ (SqL K H a vs ∨ SqT K H a vs) := by
  obtain ⟨a, vs, e, r, q | q⟩ := h
  · exact ⟨a, vs, e, r, .inl q.1⟩
  · exact ⟨a, vs, e, r, .inr (SqT.of q.2.1)⟩
theorem Lk.lst {K : PySem.W.Frag} {R : Addr → Prop} {A : Nat → List Addr} {H : Hp} {v : V} {xs : List PyData} (h : Lk K b false R A H v xs) : ∃ a vs, v = .ref a ∧ RpAll (Bd R A) H vs xs ∧ SqL K H a vs := by
  obtain ⟨a, vs, e, r, q | q⟩ := h
  · exact ⟨a, vs, e, r, q.1⟩
  · cases q.1
theorem d_len (hg : Gl X "len") (hm : X.mg "len" = none) (h1 : PE X e (tL X.K X.mg W b c l)) (na : starEach [e] X.env = (false, eval e X.env) :: starEach [] X.env := by rfl) : PE X (.Call (.Name "len" p) [e] [] pos) (tE X.K X.mg W (cLen l)) :=
  PE.imp (pe_callB call_len_seq hg hm boot_len (pa_cons h1 pa_nil na) (by decide) (by decide) na) fun σ H Q ⟨F, R, A, ρ, rel, s⟩ => by
    refine ⟨F, R, A, ρ, rel, sat_mono (sat_bind s) fun xs ρ1 s1 A1 v H1 p1 rel1 k => ?_⟩
    obtain ⟨a, vs, rfl, r, q⟩ := k.seq
    refine ⟨a, vs, rfl, q, ?_⟩
    rw [r.length]
    exact s1 A1 _ H1 p1 rel1 (.int _)
theorem d_tuple (hg : Gl X "tuple") (hm : X.mg "tuple" = none) (h1 : PE X e (tL X.K X.mg W b c l)) (na : starEach [e] X.env = (false, eval e X.env) :: starEach [] X.env := by rfl) : PE X (.Call (.Name "tuple" p) [e] [] pos) (tE X.K X.mg W (cTuple l)) :=
  PE.imp (pe_callTy call_tuple_of hg hm PyProof.Rows.boot_tuple (pa_cons h1 pa_nil na) (by decide) (by decide) na) fun σ H Q ⟨F, R, A, ρ, rel, s⟩ => by
    refine ⟨F, R, A, ρ, rel, sat_mono (sat_bind s) fun xs ρ1 s1 A1 v H1 p1 rel1 k => ?_⟩
    obtain ⟨a, vs, rfl, r, q | ⟨_, q, n⟩⟩ := k
    · refine ⟨a, vs, rfl, .inl ⟨q.1, fun y hy => ?_⟩⟩
      obtain ⟨x1, x2⟩ := fin_tup rel1 r hy
      exact s1 A1 _ _ (p1.trans (Ex0.new hy).stp) x1 x2
    · exact ⟨a, vs, rfl, .inr ⟨SqT.of q, s1 A1 _ H1 p1 rel1 (.tup q n r)⟩⟩
theorem n_list (hg : Gl X "list") (hm : X.mg "list" = none) (h1 : PE X e (tL X.K X.mg W b c l)) (na : starEach [e] X.env = (false, eval e X.env) :: starEach [] X.env := by rfl) : PE X (.Call (.Name "list" p) [e] [] pos) (tN X.K X.mg W (nList l)) :=
  PE.imp (pe_callTy call_list_of hg hm PyProof.Rows.boot_list (pa_cons h1 pa_nil na) (by decide) (by decide) na) fun σ H Q ⟨F, R, A, ρ, rel, s⟩ => by
    refine ⟨F, R, A, ρ, rel, sat_mono s fun xs ρ1 s1 A1 v H1 p1 rel1 k => ?_⟩
    obtain ⟨a, vs, rfl, r, q⟩ := k.seq
    refine ⟨a, vs, rfl, q, fun y hy => ?_⟩
    obtain ⟨x1, x2⟩ := fin_lst rel1 r hy
    exact s1 A1 y _ _ (p1.trans (Ex0.new hy).stp) x1 (rel1.fresh hy).1 (stp_none p1 hy) (rel1.fresh hy).2 upd_same x2
theorem d_all (hc : X.calm = true) (hg : Gl X "all") (hm : X.mg "all" = none) (h1 : PE X e (tL X.K X.mg W b false l)) (na : starEach [e] X.env = (false, eval e X.env) :: starEach [] X.env := by rfl) : PE X (.Call (.Name "all" p) [e] [] pos) (tE X.K X.mg W (cAll l)) :=
  PE.imp (pe_callB (cr_all hc) hg hm (by decide +kernel) (pa_cons h1 pa_nil na) (by decide) (by decide) na) fun σ H Q ⟨F, R, A, ρ, rel, s⟩ => by
    refine ⟨F, R, A, ρ, rel, sat_mono (sat_bind s) fun xs ρ1 s1 A1 v H1 p1 rel1 k => ?_⟩
    obtain ⟨a, vs, rfl, r, q⟩ := k.lst
    obtain ⟨d, e, s2⟩ := sat_lift s1
    rw [Option.map_eq_some_iff] at e
    obtain ⟨bs, e1, rfl⟩ := e
    exact ⟨a, bs, rfl, by rw [← r.bools e1]; exact q, s2 A1 _ H1 p1 rel1 (.bl _)⟩
theorem d_any (hc : X.calm = true) (hg : Gl X "any") (hm : X.mg "any" = none) (h1 : PE X e (tL X.K X.mg W b false l)) (na : starEach [e] X.env = (false, eval e X.env) :: starEach [] X.env := by rfl) : PE X (.Call (.Name "any" p) [e] [] pos) (tE X.K X.mg W (cAny l)) :=
  PE.imp (pe_callB (cr_any hc) hg hm (by decide +kernel) (pa_cons h1 pa_nil na) (by decide) (by decide) na) fun σ H Q ⟨F, R, A, ρ, rel, s⟩ => by
    refine ⟨F, R, A, ρ, rel, sat_mono (sat_bind s) fun xs ρ1 s1 A1 v H1 p1 rel1 k => ?_⟩
    obtain ⟨a, vs, rfl, r, q⟩ := k.lst
    obtain ⟨d, e, s2⟩ := sat_lift s1
    rw [Option.map_eq_some_iff] at e
    obtain ⟨bs, e1, rfl⟩ := e
    exact ⟨a, bs, rfl, by rw [← r.bools e1]; exact q, s2 A1 _ H1 p1 rel1 (.bl _)⟩
theorem d_sum (hc : X.calm = true) (hg : Gl X "sum") (hm : X.mg "sum" = none) (h1 : PE X e (tL X.K X.mg W b false l)) (na : starEach [e] X.env = (false, eval e X.env) :: starEach [] X.env := by rfl) : PE X (.Call (.Name "sum" p) [e] [] pos) (tE X.K X.mg W (cSum l)) :=
  PE.imp (pe_callB (cr_sum hc) hg hm (by decide +kernel) (pa_cons h1 pa_nil na) (by decide) (by decide) na) fun σ H Q ⟨F, R, A, ρ, rel, s⟩ => by
    refine ⟨F, R, A, ρ, rel, sat_mono (sat_bind s) fun xs ρ1 s1 A1 v H1 p1 rel1 k => ?_⟩
    obtain ⟨a, vs, rfl, r, q⟩ := k.lst
    obtain ⟨d, e, s2⟩ := sat_lift s1
    unfold sumOf at e
    rw [Option.map_eq_some_iff] at e
    obtain ⟨bs, e1, rfl⟩ := e
    exact ⟨a, bs, rfl, by rw [← r.ints e1]; exact q, s2 A1 _ H1 p1 rel1 (.int _)⟩
theorem leastI_spec : ∀ (r : List Int) (m : Int), (leastI m r = m ∨ leastI m r ∈ r) ∧ leastI m r ≤ m ∧ ∀ x ∈ r, leastI m r ≤ x
  | [], m => ⟨.inl rfl, Int.le_refl m, fun x h => (nomatch h)⟩
  | y :: r, m => by
    obtain ⟨a, b, c⟩ := leastI_spec r (if y < m then y else m)
    unfold leastI
    by_cases hy : y < m
    · rw [if_pos hy] at a b c ⊢
      refine ⟨.inr ?_, by omega, fun x hx => ?_⟩
      · rcases a with a | a
        · rw [a]; simp
        · exact List.mem_cons_of_mem _ a
      · rcases List.mem_cons.mp hx with rfl | hx
        · exact b
        · exact c x hx
    · rw [if_neg hy] at a b c ⊢
      refine ⟨?_, b, fun x hx => ?_⟩
      · rcases a with a | a
        · exact .inl a
        · exact .inr (List.mem_cons_of_mem _ a)
      · rcases List.mem_cons.mp hx with rfl | hx
        · omega
        · exact c x hx
theorem greatI_spec : ∀ (r : List Int) (m : Int), (greatI m r = m ∨ greatI m r ∈ r) ∧ m ≤ greatI m r ∧ ∀ x ∈ r, x ≤ greatI m r
  | [], m => ⟨.inl rfl, Int.le_refl m, fun x h => (nomatch h)⟩
  | y :: r, m => by
    obtain ⟨a, b, c⟩ := greatI_spec r (if m < y then y else m)
    unfold greatI
    by_cases hy : m < y
    · rw [if_pos hy] at a b c ⊢
      refine ⟨.inr ?_, by omega, fun x hx => ?_⟩
      · rcases a with a | a
        · rw [a]; simp
        · exact List.mem_cons_of_mem _ a
      · rcases List.mem_cons.mp hx with rfl | hx
        · exact b
        · exact c x hx
    · rw [if_neg hy] at a b c ⊢
      refine ⟨?_, b, fun x hx => ?_⟩
      · rcases a with a | a
        · exact .inl a
        · exact .inr (List.mem_cons_of_mem _ a)
      · rcases List.mem_cons.mp hx with rfl | hx
        · omega
        · exact c x hx
theorem d_min (hc : X.calm = true) (hg : Gl X "min") (hm : X.mg "min" = none) (h1 : PE X e (tL X.K X.mg W b false l)) (na : starEach [e] X.env = (false, eval e X.env) :: starEach [] X.env := by rfl) : PE X (.Call (.Name "min" p) [e] [] pos) (tE X.K X.mg W (cMin l)) :=
  PE.imp (pe_callB (cr_min hc) hg hm (by decide +kernel) (pa_cons h1 pa_nil na) (by decide) (by decide) na) fun σ H Q ⟨F, R, A, ρ, rel, s⟩ => by
    refine ⟨F, R, A, ρ, rel, sat_mono (sat_bind s) fun xs ρ1 s1 A1 v H1 p1 rel1 k => ?_⟩
    obtain ⟨a, vs, rfl, r, q⟩ := k.lst
    obtain ⟨d, e, s2⟩ := sat_lift s1
    unfold minOf at e
    rw [Option.bind_eq_some_iff] at e
    obtain ⟨ns, e1, e⟩ := e
    cases ns with
    | nil => cases e
    | cons m ms =>
      cases e
      refine ⟨a, m :: ms, rfl, by rw [← r.ints e1]; exact q, Nat.zero_lt_succ _, fun n hn hle => ?_⟩
      obtain ⟨z1, z2, z3⟩ := leastI_spec ms m
      have e3 : n = leastI m ms := by
        apply Int.le_antisymm
        · refine hle _ ?_
          rcases z1 with z1 | z1
          · rw [z1]; simp
          · exact List.mem_cons_of_mem _ z1
        · rcases List.mem_cons.mp hn with rfl | hn
          · exact z2
          · exact z3 n hn
      rw [e3]
      exact s2 A1 _ H1 p1 rel1 (.int _)
theorem d_max (hc : X.calm = true) (hg : Gl X "max") (hm : X.mg "max" = none) (h1 : PE X e (tL X.K X.mg W b false l)) (na : starEach [e] X.env = (false, eval e X.env) :: starEach [] X.env := by rfl) : PE X (.Call (.Name "max" p) [e] [] pos) (tE X.K X.mg W (cMax l)) :=
  PE.imp (pe_callB (cr_max hc) hg hm (by decide +kernel) (pa_cons h1 pa_nil na) (by decide) (by decide) na) fun σ H Q ⟨F, R, A, ρ, rel, s⟩ => by
    refine ⟨F, R, A, ρ, rel, sat_mono (sat_bind s) fun xs ρ1 s1 A1 v H1 p1 rel1 k => ?_⟩
    obtain ⟨a, vs, rfl, r, q⟩ := k.lst
    obtain ⟨d, e, s2⟩ := sat_lift s1
    unfold maxOf at e
    rw [Option.bind_eq_some_iff] at e
    obtain ⟨ns, e1, e⟩ := e
    cases ns with
    | nil => cases e
    | cons m ms =>
      cases e
      refine ⟨a, m :: ms, rfl, by rw [← r.ints e1]; exact q, Nat.zero_lt_succ _, fun n hn hle => ?_⟩
      obtain ⟨z1, z2, z3⟩ := greatI_spec ms m
      have e3 : n = greatI m ms := by
        apply Int.le_antisymm
        · rcases List.mem_cons.mp hn with rfl | hn
          · exact z2
          · exact z3 n hn
        · refine hle _ ?_
          rcases z1 with z1 | z1
          · rw [z1]; simp
          · exact List.mem_cons_of_mem _ z1
      rw [e3]
      exact s2 A1 _ H1 p1 rel1 (.int _)

/-! ### built-in functions of one or two numbers -/
theorem tCB1_of {r : List V → Hp → VK → Prop} {o : PyData → Option PyData} (ok : UnOk (fun x H Q => r [x] H Q) o) (σ : St) (H : Hp) (Q : VK) (s : tE X.K X.mg W (cUn o f) σ H Q) : tCB r (tCons (tE X.K X.mg W f) tNil) σ H Q := tUn_of ok σ H Q s
theorem tCB2_of {r : List V → Hp → VK → Prop} {o : Op2} (ok : OpOk (fun x y H Q => r [x, y] H Q) o) (σ : St) (H : Hp) (Q : VK) (s : tE X.K X.mg W (cBin o f g) σ H Q) : tCB r (tCons (tE X.K X.mg W f) (tCons (tE X.K X.mg W g) tNil)) σ H Q := tOp_of ok σ H Q s
theorem d_abs (hg : Gl X "abs") (hm : X.mg "abs" = none) (h1 : PE X e (tE X.K X.mg W f)) (na : starEach [e] X.env = (false, eval e X.env) :: starEach [] X.env := by rfl) : PE X (.Call (.Name "abs" p) [e] [] pos) (tE X.K X.mg W (cUn opAbs f)) :=
  PE.imp (pe_callB call_abs hg hm (by decide +kernel) (pa_cons h1 pa_nil na) (by decide) (by decide) na) (tCB1_of fun B H x a d Q ra e hB q => by
    unfold opAbs at e
    split at e
    · rename_i n
      cases e
      cases ra
      refine ⟨n, rfl, ?_⟩
      have e2 : (if n < 0 then -n else n) = (n.natAbs : Int) := by split <;> omega
      rw [e2]
      exact q _ H (.refl H) (.int _)
    · cases e)
theorem d_intI (hg : Gl X "int") (hm : X.mg "int" = none) (h1 : PE X e (tE X.K X.mg W f)) (na : starEach [e] X.env = (false, eval e X.env) :: starEach [] X.env := by rfl) : PE X (.Call (.Name "int" p) [e] [] pos) (tE X.K X.mg W (cUn opInt f)) :=
  PE.imp (pe_callTy call_int1 hg hm (by decide +kernel) (pa_cons h1 pa_nil na) (by decide) (by decide) na) (tCB1_of fun B H x a d Q ra e hB q => by
    unfold opInt at e
    split at e
    · cases e
      cases ra
      exact .inl ⟨_, rfl, q _ H (.refl H) (.int _)⟩
    · cases e)
theorem d_max2 (hc : X.calm = true) (hg : Gl X "max") (hm : X.mg "max" = none) (h1 : PE X e1 (tE X.K X.mg W f)) (h2 : PE X e2 (tE X.K X.mg W g)) (na : starEach [e1, e2] X.env = (false, eval e1 X.env) :: starEach [e2] X.env := by rfl)
    (nb : starEach [e2] X.env = (false, eval e2 X.env) :: starEach [] X.env := by rfl) (hpl : (backTo pos (starEach [e2] X.env)).any (·.1) = false := by rfl) : PE X (.Call (.Name "max" p) [e1, e2] [] pos) (tE X.K X.mg W (cBin opMax2 f g)) :=
  PE.imp (pe_callB (call_max2 hc) hg hm (by decide +kernel) (pa_cons h1 (pa_cons h2 pa_nil nb) na) (by decide) (by decide) na hpl) (tCB2_of fun B H x y a k d Q ra rb e hB q => by
    unfold opMax2 at e
    split at e
    · cases e
      cases ra
      cases rb
      exact ⟨_, _, rfl, q _ H (.refl H) (.int _)⟩
    · cases e)
theorem d_min2 (hc : X.calm = true) (hg : Gl X "min") (hm : X.mg "min" = none) (h1 : PE X e1 (tE X.K X.mg W f)) (h2 : PE X e2 (tE X.K X.mg W g)) (na : starEach [e1, e2] X.env = (false, eval e1 X.env) :: starEach [e2] X.env := by rfl)
    (nb : starEach [e2] X.env = (false, eval e2 X.env) :: starEach [] X.env := by rfl) (hpl : (backTo pos (starEach [e2] X.env)).any (·.1) = false := by rfl) : PE X (.Call (.Name "min" p) [e1, e2] [] pos) (tE X.K X.mg W (cBin opMin2 f g)) :=
  PE.imp (pe_callB (call_min2 hc) hg hm (by decide +kernel) (pa_cons h1 (pa_cons h2 pa_nil nb) na) (by decide) (by decide) na hpl) (tCB2_of fun B H x y a k d Q ra rb e hB q => by
    unfold opMin2 at e
    split at e
    · cases e
      cases ra
      cases rb
      exact ⟨_, _, rfl, q _ H (.refl H) (.int _)⟩
    · cases e)
/-- divmod: the pair -/
theorem d_divmod (hg : Gl X "divmod") (hm : X.mg "divmod" = none) (h1 : PE X e1 (tE X.K X.mg W f)) (h2 : PE X e2 (tE X.K X.mg W g)) (na : starEach [e1, e2] X.env = (false, eval e1 X.env) :: starEach [e2] X.env := by rfl)
    (nb : starEach [e2] X.env = (false, eval e2 X.env) :: starEach [] X.env := by rfl) (hpl : (backTo pos (starEach [e2] X.env)).any (·.1) = false := by rfl) : PE X (.Call (.Name "divmod" p) [e1, e2] [] pos) (tE X.K X.mg W (cBin opDivmod f g)) :=
  PE.imp (pe_callB call_divmod hg hm (by decide +kernel) (pa_cons h1 (pa_cons h2 pa_nil nb) na) (by decide) (by decide) na hpl) (tCB2_of fun B H x y a k d Q ra rb e hB q => by
    unfold opDivmod at e
    split at e
    · split at e
      · rename_i hd
        cases e
        cases ra
        cases rb
        refine ⟨_, _, rfl, hd, fun y hy => q _ _ (Ex0.new hy) (.tup upd_same (fun z => hB y z hy) (.cons (.int _) (.cons (.int _) .nil)))⟩
      · cases e
    · cases e)

/-! ### isinstance -/
def tyName : Ty → String
  | .int => "int"
  | .bool => "bool"
  | .str => "str"
  | .tuple => "tuple"
  | .list => "list"
def tyB (t : Ty) (s : String) : Bool := match kitB s (tyName t) with
  | some b => b
  | none => false
def dName : PyData → String
  | .none => "NoneType"
  | .bool _ => "bool"
  | .int _ => "int"
  | .str _ => "str"
  | .list _ => "list"
  | .tuple _ => "tuple"
  | .dict _ => "dict"
theorem isTy_kit (t : Ty) (d : PyData) (hd : dName d ≠ "dict") : kitB (dName d) (tyName t) = some (isTy t d) := by
  cases d with
  | dict _ => exact absurd rfl hd
  | none => cases t <;> decide +kernel
  | bool b => exact (show kitB "bool" (tyName t) = some (isTy t (.bool true)) by cases t <;> decide +kernel).trans (by cases t <;> rfl)
  | int b => exact (show kitB "int" (tyName t) = some (isTy t (.int 0)) by cases t <;> decide +kernel).trans (by cases t <;> rfl)
  | str b => exact (show kitB "str" (tyName t) = some (isTy t (.str "")) by cases t <;> decide +kernel).trans (by cases t <;> rfl)
  | list b => exact (show kitB "list" (tyName t) = some (isTy t (.list [])) by cases t <;> decide +kernel).trans (by cases t <;> rfl)
  | tuple b => exact (show kitB "tuple" (tyName t) = some (isTy t (.tuple [])) by cases t <;> decide +kernel).trans (by cases t <;> rfl)
theorem Rp.tyx {K : PySem.W.Frag} {B : Addr → Prop} {H : Hp} {v : V} {d : PyData} (r : Rp B H v d) : TyX K H v (.type (dName d)) ∧ dName d ≠ "dict" := by
  cases r with
  | non => exact ⟨.base .non, by decide⟩
  | bl b => exact ⟨.base (.bl b), by show ("bool" : String) ≠ "dict"; decide⟩
  | int i => exact ⟨.base (.int i), by show ("int" : String) ≠ "dict"; decide⟩
  | str x => exact ⟨.base (.str x), by show ("str" : String) ≠ "dict"; decide⟩
  | lst h _ _ => exact ⟨.base (.lst h), by show ("list" : String) ≠ "dict"; decide⟩
  | tup h _ _ => exact ⟨.base (.tup h), by show ("tuple" : String) ≠ "dict"; decide⟩
theorem d_isi (t : Ty) {x : Str} (hg : Gl X "isinstance") (hm : X.mg "isinstance" = none) (hgx : Gl X x) (hmx : X.mg x = none) (hv : bootBuiltins x = some (.type (tyName t))) (h1 : PE X e (tE X.K X.mg W f)) (hn : x ≠ "__name__" := by decide) (hd : (x == ("__debug__" : Str)) = false := by decide)
    (na : starEach [e, .Name x p2] X.env = (false, eval e X.env) :: starEach [.Name x p2] X.env := by rfl) (nb : starEach [.Name x p2] X.env = (false, eval (.Name x p2) X.env) :: starEach [] X.env := by rfl) (hpl : (backTo pos (starEach [.Name x p2] X.env)).any (·.1) = false := by rfl) :
    PE X (.Call (.Name "isinstance" p) [e, .Name x p2] [] pos) (tE X.K X.mg W (cUn (opIsi [t]) f)) :=
  PE.imp (pe_callB call_isi hg hm (by decide +kernel) (pa_cons h1 (pa_cons (pe_bltn (v := .ty (tyName t)) hgx hmx hv rfl hn hd) pa_nil nb) na) (by decide) (by decide) na hpl) fun σ H Q ⟨F, R, A, ρ, rel, s⟩ => by
    refine ⟨F, R, A, ρ, rel, sat_mono (sat_bind s) fun d ρ1 s1 A1 v H1 p1 rel1 r => ?_⟩
    obtain ⟨d', e, q⟩ := sat_lift s1
    cases e
    refine ⟨v, .ty (tyName t), .type (dName d), .type (tyName t), isTy t d, rfl, .ty _, r.tyx.1, kit_ty (isTy_kit t d (r.tyx (K := X.K)).2), ?_⟩
    have e2 : isTy t d = [t].any fun t => isTy t d := by simp
    rw [e2]
    exact q A1 _ H1 p1 rel1 (.bl _)
/-- isinstance(x, (S, T)) -/
theorem d_isi2 (t t2 : Ty) {x y : Str} (hg : Gl X "isinstance") (hm : X.mg "isinstance" = none) (hgx : Gl X x) (hmx : X.mg x = none) (hv : bootBuiltins x = some (.type (tyName t))) (hgy : Gl X y) (hmy : X.mg y = none) (hvy : bootBuiltins y = some (.type (tyName t2)))
    (h1 : PE X e (tE X.K X.mg W f)) (hn : x ≠ "__name__" := by decide) (hd : (x == ("__debug__" : Str)) = false := by decide) (hn2 : y ≠ "__name__" := by decide) (hd2 : (y == ("__debug__" : Str)) = false := by decide)
    (na : starEach [e, .Tuple [.Name x p2, .Name y p3] k p4] X.env = (false, eval e X.env) :: starEach [.Tuple [.Name x p2, .Name y p3] k p4] X.env := by rfl) :
    PE X (.Call (.Name "isinstance" p) [e, .Tuple [.Name x p2, .Name y p3] k p4] [] pos) (tE X.K X.mg W (cUn (opIsi [t, t2]) f)) :=
  PE.imp (pe_callB call_isiT hg hm (by decide +kernel) (pa_cons h1 (pa_cons (pe_tup (pa_cons (pe_bltn (v := .ty (tyName t)) hgx hmx hv rfl hn hd) (pa_cons (pe_bltn (v := .ty (tyName t2)) hgy hmy hvy rfl hn2 hd2) pa_nil))) pa_nil) na) (by decide) (by decide) na) fun σ H Q ⟨F, R, A, ρ, rel, s⟩ => by
    refine ⟨F, R, A, ρ, rel, sat_mono (sat_bind s) fun d ρ1 s1 A1 v H1 p1 rel1 r => ?_⟩
    obtain ⟨d', e, q⟩ := sat_lift s1
    cases e
    refine ⟨by show 2 ≤ sizeLine; decide, fun tp htp => ?_⟩
    have x1 : Ex0 H1 (upd H1 tp (.tup [.ty (tyName t), .ty (tyName t2)])) := Ex0.new htp
    have e2 : ([t, t2].any fun t => isTy t d) = (isTy t d || isTy t2 d) := by simp
    refine ⟨v, tp, _, .type (dName d), [.type (tyName t), .type (tyName t2)], isTy t d || isTy t2 d, rfl, upd_same, .cons (.ty _) (.cons (.ty _) .nil), (r.ex0 x1).tyx.1, ?_, ?_⟩
    · refine kitAny_cons (kit_ty (isTy_kit t d (r.tyx (K := X.K)).2)) (fun z => ?_) fun z => by rw [z]; rfl
      rw [z, Bool.false_or]
      exact kitAny_cons (kit_ty (isTy_kit t2 d (r.tyx (K := X.K)).2)) (fun z2 => by rw [z2]; exact kitAny_nil) fun z2 => z2
    · rw [← e2]
      exact q A1 _ _ (p1.trans x1.stp) (rel1.grow x1) (.bl _)

/-! ### list(range(..)) -/
theorem rgV_rp {B : Addr → Prop} {H : Hp} (a b : Int) : RpAll B H (rgV a b) (rng a b) := by
  unfold rgV rng
  induction (List.range (b - a).toNat) with
  | nil => exact .nil
  | cons x r ih => exact .cons (.int _) ih
theorem big62_iff {i : Int} (h : big62 i = true) : -(2 ^ 62) ≤ i ∧ i < 2 ^ 62 := by
  unfold big62 at h
  simp only [Bool.and_eq_true, decide_eq_true_eq] at h
  exact h
theorem n_rg1 {p2 pos2 : Pos} (hc : X.calm = true) (hgl : Gl X "list") (hml : X.mg "list" = none) (hg : Gl X "range") (hm : X.mg "range" = none) (h1 : PE X e (tE X.K X.mg W f)) (na : starEach [e] X.env = (false, eval e X.env) :: starEach [] X.env := by rfl)
    (nb : starEach [.Call (.Name "range" p2) [e] [] pos2] X.env = (false, eval (.Call (.Name "range" p2) [e] [] pos2) X.env) :: starEach [] X.env := by rfl) :
    PE X (.Call (.Name "list" p) [.Call (.Name "range" p2) [e] [] pos2] [] pos) (tN X.K X.mg W (nRg1 f)) :=
  PE.imp (pe_listRg hc hgl hml (prg_1 hg hm h1 na) nb) fun σ H Q ⟨F, R, A, ρ, rel, s⟩ => by
    refine ⟨F, R, A, ρ, rel, sat_mono (sat_bind s) fun d ρ1 s1 A1 v H1 p1 rel1 r1 => ?_⟩
    split at s1
    · split at s1
      · rename_i hb
        simp only [Bool.and_eq_true, decide_eq_true_eq] at hb
        cases r1
        obtain ⟨b1, b2⟩ := big62_iff hb.1
        refine ⟨_, rfl, ⟨by omega, by omega, b1, b2, by have := hb.2; unfold maxSeq at this; omega⟩, fun q hq => ?_⟩
        obtain ⟨x1, x2⟩ := fin_lst rel1 (rgV_rp 0 _) hq
        exact s1 A1 q _ _ (p1.trans (Ex0.new hq).stp) x1 (rel1.fresh hq).1 (stp_none p1 hq) (rel1.fresh hq).2 upd_same x2
      · exact s1.elim
    · exact s1.elim
theorem n_rg2 {p2 pos2 : Pos} (hc : X.calm = true) (hgl : Gl X "list") (hml : X.mg "list" = none) (hg : Gl X "range") (hm : X.mg "range" = none) (h1 : PE X e1 (tE X.K X.mg W f)) (h2 : PE X e2 (tE X.K X.mg W g)) (na : starEach [e1, e2] X.env = (false, eval e1 X.env) :: starEach [e2] X.env := by rfl)
    (na2 : starEach [e2] X.env = (false, eval e2 X.env) :: starEach [] X.env := by rfl) (hp : (backTo pos2 (starEach [e2] X.env)).any (·.1) = false := by rfl)
    (nb : starEach [.Call (.Name "range" p2) [e1, e2] [] pos2] X.env = (false, eval (.Call (.Name "range" p2) [e1, e2] [] pos2) X.env) :: starEach [] X.env := by rfl) :
    PE X (.Call (.Name "list" p) [.Call (.Name "range" p2) [e1, e2] [] pos2] [] pos) (tN X.K X.mg W (nRg2 f g)) :=
  PE.imp (pe_listRg hc hgl hml (prg_2 hg hm h1 h2 na na2 hp) nb) fun σ H Q ⟨F, R, A, ρ, rel, s⟩ => by
    refine ⟨F, R, A, ρ, rel, sat_mono (sat_bind s) fun d ρ1 s1 A1 v H1 p1 rel1 r1 => ?_⟩
    refine ⟨F, R, A1, ρ1, rel1, sat_mono (sat_bind s1) fun d2 ρ2 s2 A2 v2 H2 p2 rel2 r2 => ?_⟩
    split at s2
    · split at s2
      · rename_i hb
        simp only [Bool.and_eq_true, decide_eq_true_eq] at hb
        cases r1
        cases r2
        obtain ⟨b1, b2⟩ := big62_iff hb.1.1
        obtain ⟨b3, b4⟩ := big62_iff hb.1.2
        refine ⟨_, _, rfl, rfl, ⟨b1, b2, b3, b4, by have := hb.2; unfold maxSeq at this; omega⟩, fun q hq => ?_⟩
        obtain ⟨x1, x2⟩ := fin_lst rel2 (rgV_rp _ _) hq
        exact s2 A2 q _ _ ((p1.trans p2).trans (Ex0.new hq).stp) x1 (rel2.fresh hq).1 (stp_none (p1.trans p2) hq) (rel2.fresh hq).2 upd_same x2
      · exact s2.elim
    · exact s2.elim
end
end Mo
end
section
set_option autoImplicit false
set_option linter.all false
set_option Elab.async false
set_option maxHeartbeats 1000000
/-! MJ4: what is walked, targets, comprehensions. -/
namespace Mo
open PySem L2

/-! ### walks -/
theorem Rp.stpR {R R' : Addr → Prop} {A A' : Nat → List Addr} {H H' : Hp} {v : V} {d : PyData} (hR : ∀ a, R' a → R a ∨ H a = none) (x : Stp A H A' H') (h : Rp (Bd R A) H v d) : Rp (Bd R' A') H' v d := by
  have h1 : Rp (Bd R A') H' v d := h.stp x
  have key : ∀ a o, H a = some o → ¬ Bd R A a → ¬ Bd R' A' a := fun a o e n z => by
    rcases z with z | ⟨i, z⟩
    · rcases hR a z with q | q
      · exact n (.inl q)
      · rw [q] at e; cases e
    · exact (x.back e fun i z => n (.inr ⟨i, z⟩)).2 i z
  clear h1
  revert h
  have kk : ∀ a o, H a = some o → ¬ Bd R A a → H' a = some o := fun a o e n => (x.back e fun i z => n (.inr ⟨i, z⟩)).1
  generalize Bd R A = B at key kk
  generalize Bd R' A' = B' at key
  intro h
  exact go key kk h
where
  go {B B' : Addr → Prop} {H H' : Hp} (key : ∀ a o, H a = some o → ¬ B a → ¬ B' a) (kk : ∀ a o, H a = some o → ¬ B a → H' a = some o) : ∀ {d : PyData} {v : V}, Rp B H v d → Rp B' H' v d
  | _, _, .non => .non
  | _, _, .bl b => .bl b
  | _, _, .int i => .int i
  | _, _, .str y => .str y
  | _, _, .lst h n r => .lst (kk _ _ h n) (key _ _ h n) (goA key kk r)
  | _, _, .tup h n r => .tup (kk _ _ h n) (key _ _ h n) (goA key kk r)
  goA {B B' : Addr → Prop} {H H' : Hp} (key : ∀ a o, H a = some o → ¬ B a → ¬ B' a) (kk : ∀ a o, H a = some o → ¬ B a → H' a = some o) : ∀ {ds : List PyData} {vs : List V}, RpAll B H vs ds → RpAll B' H' vs ds
  | _, _, .nil => .nil
  | _, _, .cons h r => .cons (go key kk h) (goA key kk r)
/-- the loop walks xs, whatever the steps between its turns do to what is owned or new -/
def Walk (R : Addr → Prop) (A : Nat → List Addr) (H : Hp) (J : It) (xs : List PyData) : Prop :=
  ∀ (R' : Addr → Prop) A' H', (∀ a, R' a → R a ∨ H a = none) → (∀ a, Bd R' A' a → H' a ≠ none ∧ ∀ us, H' a ≠ some (.tup us)) → Stp A H A' H' → ∀ i : Nat,
    (xs.length ≤ i → J.stop i H') ∧ ∀ d, xs[i]? = some d → J.go i H' ∧ ∀ x H2, J.yld i H' x H2 → Ex0 H' H2 ∧ Rp (Bd R' A') H2 x d
/-- only the slots ts change -/
def Kp (ts : List Nat) (σ σ' : St) : Prop := σ'.length = σ.length ∧ ∀ i, i ∉ ts → σ'[i]? = σ[i]?
theorem Kp.refl {ts : List Nat} {σ : St} : Kp ts σ σ := ⟨rfl, fun _ _ => rfl⟩
theorem Kp.trans {ts us : List Nat} {σ σ1 σ2 : St} (a : Kp ts σ σ1) (b : Kp us σ1 σ2) : Kp (ts ++ us) σ σ2 := ⟨b.1.trans a.1, fun i h => (b.2 i fun z => h (List.mem_append_right _ z)).trans (a.2 i fun z => h (List.mem_append_left _ z))⟩
theorem Kp.mono {ts us : List Nat} {σ σ1 : St} (a : Kp ts σ σ1) (h : ∀ t ∈ ts, t ∈ us) : Kp us σ σ1 := ⟨a.1, fun i z => a.2 i fun q => z (h i q)⟩
theorem Kp.set {σ : St} {i : Nat} {x : Option V} : Kp [i] σ (σ.set i x) := ⟨List.length_set, fun j h => List.getElem?_set_ne fun z => h (by rw [z]; simp)⟩
theorem wipe_getElem (σ : St) (i : Nat) : ∀ vs : List Nat, (wipe σ vs)[i]? = if i ∈ vs ∧ i < σ.length then some none else σ[i]?
  | [] => by simp [wipe]
  | v :: vs => by
    unfold wipe
    by_cases h : v = i
    · subst h
      by_cases hl : v < σ.length
      · rw [List.getElem?_set_self (by rw [wipe_length]; exact hl), if_pos ⟨by simp, hl⟩]
      · rw [if_neg (fun z => hl z.2), List.getElem?_eq_none (by simp [wipe_length]; omega), List.getElem?_eq_none (by omega)]
    · rw [List.getElem?_set_ne h, wipe_getElem σ i vs]
      have e : (i ∈ v :: vs) ↔ i ∈ vs := by simp [Ne.symm h]
      simp only [e]
theorem Kp.wipe {ts vs : List Nat} {σ σ' : St} (k : Kp ts σ σ') (h : ∀ t ∈ ts, t ∈ vs) : L2.wipe σ' vs = L2.wipe σ vs := by
  apply List.ext_getElem?
  intro i
  rw [wipe_getElem, wipe_getElem, k.1]
  by_cases hi : i ∈ vs ∧ i < σ.length
  · rw [if_pos hi, if_pos hi]
  · rw [if_neg hi, if_neg hi]
    by_cases hv : i ∈ ts
    · have : σ.length ≤ i := Nat.le_of_not_lt fun z => hi ⟨h i hv, z⟩
      rw [List.getElem?_eq_none this, List.getElem?_eq_none (by rw [k.1]; exact this)]
    · exact k.2 i hv
section
variable (K : PySem.W.Frag) (mg : Str → Option Value) (W : WX)
def tI (f : Ls) : TI := fun σ H Q => ∃ F R A ρ, Rel K mg F R A ρ σ H ∧ sat (WW K mg W F R) (fun xs ρ' => ∀ A' J H', Stp A H A' H' → Rel K mg F R A' ρ' σ H' → Walk R A' H' J xs → Q J H') (f ρ)
/-- a target; ts: the slots that it sets -/
def tG (ts : List Nat) (g : Tg) : TG := fun v σ H Q => ∃ F R A ρ d, Rel K mg F R A ρ σ H ∧ Rp (Bd R A) H v d ∧ sat (WW K mg W F R) (fun _ ρ' => ∀ A' σ' H', Stp A H A' H' → Rel K mg F R A' ρ' σ' H' → Kp ts σ σ' → Q σ' H') (g d ρ)
def tGs (ts : List Nat) (gs : List Tg) : TGs := fun vs σ H Q => ∃ F R A ρ ds, Rel K mg F R A ρ σ H ∧ RpAll (Bd R A) H vs ds ∧ sat (WW K mg W F R) (fun _ ρ' => ∀ A' σ' H', Stp A H A' H' → Rel K mg F R A' ρ' σ' H' → Kp ts σ σ' → Q σ' H') (gAll gs ds ρ)
end
theorem PG.imp {X : Cx} {e : Expr} {t t' : TG} (h : PG X e t) (k : ∀ v σ H Q, t' v σ H Q → t v σ H Q) : PG X e t' := ⟨fun pins s σ H v u Q I r w => h.run pins s σ H v u Q I r (k v σ H Q w)⟩
theorem PGs.imp {X : Cx} {e : List Expr} {t t' : TGs} (h : PGs X e t) (k : ∀ v σ H Q, t' v σ H Q → t v σ H Q) : PGs X e t' := ⟨fun pins s σ H v u Q I r w => h.run pins s σ H v u Q I r (k v σ H Q w)⟩
theorem PI.imp {X : Cx} {tg e : Expr} {t t' : TI} (h : PI X tg e t) (k : ∀ σ H Q, t' σ H Q → t σ H Q) : PI X tg e t' := ⟨fun pins s σ H Q I w => h.run pins s σ H Q I (k σ H Q w)⟩

section
variable {X : Cx} {W : WX} {e e1 e2 e3 tg : Expr} {es : List Expr} {f g h : Ex} {l k : Ls} {pos p : Pos} {i : Nat} {t u : Ts} {b c : Bool} {ts us : List Nat} {γ : Tg} {γs : List Tg}

/-! ### what is walked -/
/-- a list or a tuple, as the value tells -/
theorem pi_seqv {tl : TE} (hl : PE X e tl) : PI X tg e (fun σ H R => tl σ H fun x H1 => ∃ a, x = .ref a ∧ (((∃ xs, SqL X.K H1 a xs) ∧ R (Itl X.K a) H1) ∨ ((∃ xs, SqT X.K H1 a xs) ∧ R (Itt X.K a) H1))) := by
  refine ⟨fun pins s σ H R I h => ?_⟩
  refine thn (hl.run pins s σ H _ I h) fun v s1 ⟨x, H1, I1, r1, q1⟩ => ?_
  obtain ⟨a, e, q1⟩ := q1
  subst e
  cases r1
  have fr : ∀ b ∈ [s1.heap.objs.size], FpOk X pins H1 b := fun b hb => by
    have e : b = s1.heap.objs.size := by simpa using hb
    subst e
    exact I1.fpOk (Nat.le_refl _) (I1.hok.fresh (Nat.le_refl _))
  rcases q1 with ⟨⟨xs, hq⟩, q⟩ | ⟨⟨xs, hq⟩, q⟩
  · obtain ⟨its, rv, p, hz⟩ := I1.list hq
    refine wpAny_pyIter_list p.isList ?_
    exact ⟨s1.heap.objs.size, [s1.heap.objs.size], _, _, H1, rfl, I1.kept (t' := s1.toks) fun b o e => Heap.get?_push_of_some _ e, turn_list a _, ⟨_, Heap.get?_push_size _ rfl, rfl, rfl⟩, fr, q⟩
  · obtain ⟨its, rv, p, hz⟩ := I1.tuple hq
    refine wpAny_pyIter_tuple (show s1.heap.IsTuple a its.toArray from p) ?_
    exact ⟨s1.heap.objs.size, [s1.heap.objs.size], _, _, H1, rfl, I1.kept (t' := s1.toks) fun b o e => Heap.get?_push_of_some _ e, turn_tuple a _, ⟨_, Heap.get?_push_size _ rfl, rfl, rfl⟩, fr, q⟩
theorem nn {H : Hp} {a : Addr} {o : HO} (h : H a = some o) : H a ≠ none := fun z => by rw [z] at h; cases h
/-- a value's place in the list -/
theorem RpAll.at {B : Addr → Prop} {H : Hp} {vs : List V} {xs : List PyData} (r : RpAll B H vs xs) {j : Nat} {d : PyData} (e : xs[j]? = some d) {v : V} (e2 : vs[j]? = some v) : Rp B H v d := by
  obtain ⟨w, e3, q⟩ := r.get e
  rw [e2] at e3
  cases e3
  exact q
theorem RpAll.none {B : Addr → Prop} {H : Hp} {vs : List V} {xs : List PyData} (r : RpAll B H vs xs) {j : Nat} (h : xs.length ≤ j) : vs.length ≤ j := by rw [r.length]; exact h
theorem i_seq (h1 : PE X e (tL X.K X.mg W true true l)) : PI X tg e (tI X.K X.mg W l) :=
  PI.imp (pi_seqv h1) fun σ H Q ⟨F, R, A, ρ, rel, s⟩ => by
    refine ⟨F, R, A, ρ, rel, sat_mono s fun xs ρ1 s1 A1 v H1 p1 rel1 k => ?_⟩
    obtain ⟨a, vs, rfl, r, q | q⟩ := k
    · refine ⟨a, rfl, .inl ⟨⟨vs, q.1⟩, s1 A1 _ H1 p1 rel1 fun R' A' H' hR hd p' j => ?_⟩⟩
      have hq := q.2 rfl A' H' p'
      refine ⟨fun hj => ⟨vs, hq, r.none hj⟩, fun d e => ?_⟩
      obtain ⟨v, e2, rv⟩ := r.get e
      refine ⟨⟨vs, v, hq, e2⟩, fun x H2 y => ?_⟩
      obtain ⟨rfl, y⟩ := y
      have e3 := y vs hq
      rw [e2] at e3
      cases e3
      exact ⟨.refl _, rv.stpR hR p'⟩
    · obtain ⟨_, q, n⟩ := q
      refine ⟨a, rfl, .inr ⟨⟨vs, SqT.of q⟩, s1 A1 _ H1 p1 rel1 fun R' A' H' hR hd p' j => ?_⟩⟩
      have hq : SqT X.K H' a vs := SqT.of (p'.back q fun i z => n (.inr ⟨i, z⟩)).1
      refine ⟨fun hj => ⟨vs, hq, r.none hj⟩, fun d e => ?_⟩
      obtain ⟨v, e2, rv⟩ := r.get e
      refine ⟨⟨vs, v, hq, e2⟩, fun x H2 y => ?_⟩
      obtain ⟨rfl, y⟩ := y
      have e3 := y vs hq
      rw [e2] at e3
      cases e3
      exact ⟨.refl _, rv.stpR hR p'⟩
theorem rng_get {i j : Int} {n : Nat} {d : PyData} (h : (rng i j)[n]? = some d) : n < (j - i).toNat ∧ d = .int (i + n) := by
  unfold rng at h
  rw [List.getElem?_map] at h
  rw [Option.map_eq_some_iff] at h
  obtain ⟨m, h1, rfl⟩ := h
  rw [List.getElem?_eq_some_iff] at h1
  obtain ⟨h2, h3⟩ := h1
  rw [List.getElem_range] at h3
  subst h3
  exact ⟨by simpa using h2, rfl⟩
theorem rng_length (i j : Int) : (rng i j).length = (j - i).toNat := by unfold rng; simp
theorem walk_rng {R : Addr → Prop} {A : Nat → List Addr} {H : Hp} (i j : Int) (n : Nat) (hn : n = (j - i).toNat) : Walk R A H (Itr i n) (rng i j) := fun R' A' H' hR hd p' m => by
  subst hn
  refine ⟨fun hm => by rw [rng_length] at hm; exact hm, fun d e => ?_⟩
  obtain ⟨h1, rfl⟩ := rng_get e
  refine ⟨h1, fun x H2 y => ?_⟩
  obtain ⟨rfl, rfl⟩ := y
  exact ⟨.refl _, .int _⟩
theorem i_rg1 (hg : Gl X "range") (hm : X.mg "range" = none) (h1 : PE X e (tE X.K X.mg W f)) (na : starEach [e] X.env = (false, eval e X.env) :: starEach [] X.env := by rfl) (nb : starEach [e] X.env = [(false, eval e X.env)] := by rfl) : PI X tg (.Call (.Name "range" p) [e] [] pos) (tI X.K X.mg W (iRg1 f)) :=
  PI.imp (pi_range1 hg hm (pa_cons h1 pa_nil na) nb) fun σ H Q ⟨F, R, A, ρ, rel, s⟩ => by
    refine ⟨F, R, A, ρ, rel, sat_mono (sat_bind s) fun d ρ1 s1 A1 v H1 p1 rel1 r1 => ?_⟩
    split at s1
    · split at s1
      · rename_i hb
        cases r1
        obtain ⟨b1, b2⟩ := big62_iff hb
        exact ⟨_, rfl, b1, b2, s1 A1 _ H1 p1 rel1 (walk_rng 0 _ _ (by simp))⟩
      · exact s1.elim
    · exact s1.elim
theorem i_rg2 (hg : Gl X "range") (hm : X.mg "range" = none) (h1 : PE X e1 (tE X.K X.mg W f)) (h2 : PE X e2 (tE X.K X.mg W g)) (na : starEach [e1, e2] X.env = (false, eval e1 X.env) :: starEach [e2] X.env := by rfl) (na2 : starEach [e2] X.env = (false, eval e2 X.env) :: starEach [] X.env := by rfl)
    (nb : starEach [e1, e2] X.env = [(false, eval e1 X.env), (false, eval e2 X.env)] := by rfl) (nb2 : starEach [e2] X.env = [(false, eval e2 X.env)] := by rfl) : PI X tg (.Call (.Name "range" p) [e1, e2] [] pos) (tI X.K X.mg W (iRg2 f g)) :=
  PI.imp (pi_range2 hg hm (pa_cons h1 (pa_cons h2 pa_nil na2) na) nb nb2) fun σ H Q ⟨F, R, A, ρ, rel, s⟩ => by
    refine ⟨F, R, A, ρ, rel, sat_mono (sat_bind s) fun d ρ1 s1 A1 v H1 p1 rel1 r1 => ?_⟩
    refine ⟨F, R, A1, ρ1, rel1, sat_mono (sat_bind s1) fun d2 ρ2 s2 A2 v2 H2 p2 rel2 r2 => ?_⟩
    split at s2
    · split at s2
      · rename_i hb
        simp only [Bool.and_eq_true] at hb
        cases r1
        cases r2
        obtain ⟨b1, b2⟩ := big62_iff hb.1
        obtain ⟨b3, b4⟩ := big62_iff hb.2
        exact ⟨_, _, rfl, ⟨b1, b2, b3, b4⟩, s2 A2 _ H2 (p1.trans p2) rel2 (walk_rng _ _ _ rfl)⟩
      · exact s2.elim
    · exact s2.elim
theorem zipT_get : ∀ {xs ys : List PyData} {n : Nat} {d : PyData}, (zipT xs ys)[n]? = some d → ∃ x y, xs[n]? = some x ∧ ys[n]? = some y ∧ d = .tuple [x, y]
  | [], _, _, _, h => by simp [zipT] at h
  | _ :: _, [], _, _, h => by simp [zipT] at h
  | x :: xs, y :: ys, 0, d, h => by
    simp [zipT] at h
    exact ⟨x, y, rfl, rfl, h.symm⟩
  | x :: xs, y :: ys, n + 1, d, h => by
    simp [zipT] at h
    obtain ⟨a, b, h1, h2, h3⟩ := zipT_get h
    exact ⟨a, b, by simpa using h1, by simpa using h2, h3⟩
theorem zipT_length : ∀ xs ys : List PyData, (zipT xs ys).length = min xs.length ys.length
  | [], ys => by simp [zipT]
  | x :: xs, [] => by simp [zipT]
  | x :: xs, y :: ys => by simp [zipT, zipT_length xs ys]
theorem yld_pair {R' : Addr → Prop} {A' : Nat → List Addr} {H' : Hp} {T : Addr} {x y : V} {a b : PyData} (hd : ∀ a, Bd R' A' a → H' a ≠ none ∧ ∀ us, H' a ≠ some (.tup us)) (hT : H' T = none) (r1 : Rp (Bd R' A') H' x a) (r2 : Rp (Bd R' A') H' y b) :
    Ex0 H' (upd H' T (.tup [x, y])) ∧ Rp (Bd R' A') (upd H' T (.tup [x, y])) (.ref T) (.tuple [a, b]) := by
  have x3 : Ex0 H' (upd H' T (.tup [x, y])) := Ex0.new hT
  exact ⟨x3, .tup upd_same (fun z => (hd T z).1 hT) (.cons (r1.ex0 x3) (.cons (r2.ex0 x3) .nil))⟩
/-- zip of two lists, of two tuples -/
theorem i_zip {elts : List Expr} {kk : Nat} {tpos : Pos} (hg : Gl X "zip") (hm : X.mg "zip" = none) (h1 : PE X e1 (tL X.K X.mg W true false k)) (h2 : PE X e2 (tL X.K X.mg W true false l)) (na : starEach [e1, e2] X.env = (false, eval e1 X.env) :: starEach [e2] X.env := by rfl) (na2 : starEach [e2] X.env = (false, eval e2 X.env) :: starEach [] X.env := by rfl)
    (hpl : (backTo pos (starEach [e2] X.env)).any (·.1) = false := by rfl) : PI X (.Tuple elts kk tpos) (.Call (.Name "zip" p) [e1, e2] [] pos) (tI X.K X.mg W (iZip k l)) :=
  PI.imp (pi_zip hg hm (pa_cons h1 (pa_cons h2 pa_nil na2) na) na hpl) fun σ H Q ⟨F, R, A, ρ, rel, s⟩ => by
    refine ⟨F, R, A, ρ, rel, sat_mono (sat_bind s) fun xs ρ1 s1 A1 v1 H1 p1 rel1 k1 => ?_⟩
    refine ⟨F, R, A1, ρ1, rel1, sat_mono (sat_bind s1) fun ys ρ2 s2 A2 v2 H2 p2 rel2 k2 => ?_⟩
    obtain ⟨a, vs, rfl, r1, q1 | q1⟩ := k1
    · obtain ⟨b, ws, rfl, r2, q2 | q2⟩ := k2
      · refine ⟨a, b, vs, ws, rfl, q1.2 rfl _ _ p2, q2.1, s2 A2 _ H2 (p1.trans p2) rel2 fun R' A' H' hR hd p' j => ?_⟩
        have hq1 := q1.2 rfl _ _ (p2.trans p')
        have hq2 := q2.2 rfl _ _ p'
        refine ⟨fun hj => ⟨vs, ws, hq1, hq2, ?_⟩, fun d e => ?_⟩
        · rw [zipT_length, ← r1.length, ← r2.length] at hj
          omega
        · obtain ⟨x, y, e1, e2, rfl⟩ := zipT_get e
          obtain ⟨u1, f1, g1⟩ := r1.get e1
          obtain ⟨u2, f2, g2⟩ := r2.get e2
          refine ⟨⟨vs, ws, u1, u2, hq1, hq2, f1, f2⟩, fun z H3 yl => ?_⟩
          obtain ⟨T, x1, y1, rfl, hT, rfl, z1, z2⟩ := yl
          have w1 := z1 vs hq1
          have w2 := z2 ws hq2
          rw [f1] at w1
          rw [f2] at w2
          cases w1
          cases w2
          exact yld_pair hd hT ((g1.stp p2).stpR hR p') (g2.stpR hR p')
      · cases q2.1
    · cases q1.1

/-! ### targets -/
theorem g_name {n : Str} {p : Pos} (h : PG X (.Name n p) (gName i)) : PG X (.Name n p) (tG X.K X.mg W [i] (gN i)) := PG.imp h fun v σ H Q ⟨F, R, A, ρ, d, rel, r, s⟩ => by
  unfold gName
  by_cases hi : i < σ.length
  · exact s (own1 A i []) _ H (.sub own1_sub) (rel.putD hi r) .set
  · have e1 : σ.set i (some v) = σ := List.set_eq_of_length_le (by omega)
    have e2 : ρ.set i (some (.dat d)) = ρ := List.set_eq_of_length_le (by rw [rel.len]; omega)
    have s' : ∀ A' σ' H', Stp A H A' H' → Rel X.K X.mg F R A' (ρ.set i (some (.dat d))) σ' H' → Kp [i] σ σ' → Q σ' H' := s
    rw [e2] at s'
    rw [e1]
    exact s' A σ H (.refl A H) rel .refl
theorem gs_nil : PGs X [] (tGs X.K X.mg W [] []) := PGs.imp pgs_nil fun vs σ H Q ⟨F, R, A, ρ, ds, rel, r, s⟩ => by
  cases r with
  | nil => exact ⟨rfl, s A σ H (.refl A H) rel .refl⟩
  | cons _ _ => exact s.elim
theorem gs_cons (h1 : PG X e (tG X.K X.mg W ts γ)) (h2 : PGs X es (tGs X.K X.mg W us γs)) (hs : (assignEach (e :: es) X.env).map (·.2) = assign e X.env :: (assignEach es X.env).map (·.2) := by rfl) : PGs X (e :: es) (tGs X.K X.mg W (ts ++ us) (γ :: γs)) :=
  PGs.imp (pgs_cons h1 h2 hs) fun vs σ H Q ⟨F, R, A, ρ, ds, rel, r, s⟩ => by
    cases r with
    | nil => exact s.elim
    | cons r1 r2 =>
      refine ⟨_, _, rfl, F, R, A, ρ, _, rel, r1, sat_mono (sat_bind s) fun _ ρ1 s1 A1 σ1 H1 p1 rel1 w1 => ?_⟩
      exact ⟨F, R, A1, ρ1, _, rel1, r2.stp p1, sat_mono s1 fun _ ρ2 s2 A2 σ2 H2 p2 rel2 w2 => s2 A2 σ2 H2 (p1.trans p2) rel2 (w1.trans w2)⟩
/-- a tuple of targets -/
theorem g_tup {kk : Nat} (hc : X.calm = true) (h : PGs X es (tGs X.K X.mg W ts γs)) (hn : (assignEach es X.env).length = γs.length := by rfl) (hst : (assignEach es X.env).findIdx? (·.1) = none := by rfl) :
    PG X (.Tuple es kk pos) (tG X.K X.mg W ts (gTup γs)) :=
  PG.imp (pg_tup hc h hn hst) fun v σ H Q ⟨F, R, A, ρ, d, rel, r, s⟩ => by
    cases r with
    | @tup a vs ds hh n r =>
      by_cases e : ds.length = γs.length
      · have e2 : gTup γs (.tuple ds) ρ = gAll γs ds ρ := if_pos e
        rw [e2] at s
        exact ⟨a, vs, rfl, SqT.of hh, by rw [r.length, e], F, R, A, ρ, _, rel, r, s⟩
      · have e2 : gTup γs (.tuple ds) ρ = .stuck := if_neg e
        rw [e2] at s
        exact s.elim
    | _ => exact s.elim
end
end Mo
end
section
set_option autoImplicit false
set_option linter.all false
set_option Elab.async false
set_option maxHeartbeats 1000000
/-! MJ5: comprehensions, statements. -/
namespace Mo
open PySem L2

theorem wipe_at {σ : St} {i : Nat} {v : V} : ∀ {vs : List Nat}, i ∉ vs → (wipe σ vs)[i]? = some (some v) → σ[i]? = some (some v)
  | [], _, h => h
  | w :: vs, n, h => by
    simp only [List.mem_cons, not_or] at n
    unfold wipe at h
    rw [List.getElem?_set_ne (Ne.symm n.1)] at h
    exact wipe_at n.2 h
theorem wipe_idem (σ : St) (vs : List Nat) : wipe (wipe σ vs) vs = wipe σ vs := by
  apply List.ext_getElem?
  intro i
  rw [wipe_getElem, wipe_getElem, wipe_length]
  by_cases hi : i ∈ vs ∧ i < σ.length
  · simp only [if_pos hi]
  · simp only [if_neg hi]
section
variable {K : PySem.W.Frag} {mg : Str → Option Value} {W : WX} {F : Fm} {R R' : Addr → Prop} {A A' A1 : Nat → List Addr} {ρ ρ1 ρc : En} {σ : St} {H H' H1 : Hp} {v : V} {d : PyData} {vs : List V} {ds : List PyData} {p D : Addr} {i : Nat} {o : HO}
/-- a step that also writes what was not there at its start -/
theorem Stp.updNew (x : Stp A H A' H') (h : H D = none) : Stp A H A' (upd H' D o) where
  ext := ⟨fun a u e n => by
    rw [upd_ne (ne_of_none e h)]
    exact x.ext.1 a u e n, fun a e => by
    by_cases q : a = D
    · rw [q, upd_same]; exact fun z => nomatch z
    · rw [upd_ne q]; exact x.ext.2 a e⟩
  own := x.own
/-- a write to what nobody speaks of -/
theorem Rel.writeR (h : Rel K mg F R A ρ σ H) (hD : R D) (h0 : F.H0 D = none) (ho : ∀ vs, o ≠ .tup vs := by intro _ z; cases z) : Rel K mg F R A ρ σ (upd H D o) where
  len := h.len
  sl := fun i sv e => by
    obtain ⟨v, e1, r⟩ := h.sl i sv e
    refine ⟨v, e1, r.imp (fun _ z => z) (fun a u e n => ?_) fun a ha u e => ?_⟩
    · rw [upd_ne (fun (z : a = D) => n (.inl (by rw [z]; exact hD)))]; exact e
    · rw [upd_ne (fun (z : a = D) => h.sep i a ha (by rw [z]; exact hD))]; exact e
  inj := h.inj
  nd := h.nd
  sep := h.sep
  dom := fun a z => by
    by_cases q : a = D
    · rw [q, upd_same]; exact fun z => nomatch z
    · rw [upd_ne q]; exact h.dom a z
  nt := fun a z vs e => by
    by_cases q : a = D
    · rw [q, upd_same] at e
      cases e
      exact ho vs rfl
    · rw [upd_ne q] at e
      exact h.nt a z vs e
  fr := fun a u e n => by
    rw [upd_ne (ne_of_none e h0)]
    exact h.fr a u e n
  frd := fun a e => by
    by_cases q : a = D
    · rw [q, upd_same]; exact fun z => nomatch z
    · rw [upd_ne q]; exact h.frd a e
  own0 := h.own0
theorem Rel.unwipe {ws : List Nat} (h : Rel K mg F R A (wipeE ρ ws) (L2.wipe σ ws) H) : Rel K mg F R A (wipeE ρ ws) σ H :=
  h.forget (by rw [h.len, wipe_length]) fun i sv e => ⟨e, fun v z => wipe_at (wipeE_some e).2 z⟩
theorem set_self {σ : St} {i : Nat} {x : Option V} (e : σ[i]? = some x) : σ.set i x = σ := by
  apply List.ext_getElem?
  intro j
  by_cases hj : i = j
  · subst hj
    rw [List.getElem?_set_self (List.getElem?_eq_some_iff.mp e).1, e]
  · rw [List.getElem?_set_ne hj]
/-- the names that a comprehension hid come back -/
theorem Rel.back (h1 : Rel K mg F R A1 ρ1 σ H1) (hR : ∀ a, R' a → R a ∨ H1 a = none) (x : Stp A1 H1 A' H') (h : Rel K mg F R' A' ρc σ H') : ∀ ws : List Nat, ∃ A2, Sub A2 A' ∧ Rel K mg F R' A2 (backE ρ1 ρc ws) σ H'
  | [] => ⟨A', .refl A', h⟩
  | w :: ws => by
    obtain ⟨A2, s, r⟩ := Rel.back h1 hR x h ws
    unfold backE
    split
    · rename_i d e
      obtain ⟨v, e1, rd⟩ := h1.sl w _ e
      have rd : Rp (Bd R A1) H1 v d := rd
      have q : Rp (Bd R' (own1 A2 w [])) H' v d := rd.stpR hR (x.trans (.sub (own1_sub.trans s)))
      have z := r.put (R := R') (i := w) (v := v) (sv := .dat d) (l := []) (by rw [← h1.len]; exact (List.getElem?_eq_some_iff.mp e).1) q (fun _ z => z) (fun _ z => nomatch z) List.nodup_nil
      rw [set_self e1] at z
      exact ⟨_, own1_sub.trans s, z⟩
    · exact ⟨A2, s, r⟩
end
section
variable {X : Cx} {W : WX} {e e1 e2 e3 tg iter elt : Expr} {es ifs : List Expr} {f g h : Ex} {l k it : Ls} {pos p : Pos} {i : Nat} {t u : Ts} {b c : Bool} {ts us : List Nat} {γ : Tg} {γs : List Tg} {scope : Scope} {own : List (Str × Nat)}
theorem wf_nil {mg : Str → Option Value} {K : PySem.W.Frag} (hK : X.K = K) (hm : X.mg = mg) : PTs X [] (tT K mg W Mo.tYes) := ⟨fun pins s σ H Q I ⟨F, R, A, ρ, rel, z⟩ => pts_nil.run pins s σ H Q I (z A H (.refl A H) rel)⟩
theorem wf_one (h : PT X e (tT X.K X.mg W t)) : PTs X [e] (tT X.K X.mg W t) := pts_one h
theorem sat_up {α : Type} {K : PySem.W.Frag} {mg : Str → Option Value} {F : Fm} {R R' : Addr → Prop} {P P' : α → En → Prop} {o : Out α} (hR : ∀ a, R a → R' a) (h : sat (WW K mg W F R) P o) (hp : ∀ a ρ, P a ρ → P' a ρ) : sat (WW K mg W F R') P' o := sat_imp h hp fun x ρ w => WW.up _ _ _ hR w
/-- THE COMPREHENSION: its reading by the plain one -/
theorem tLc_of {vs : List Nat} (hts : ∀ j ∈ ts, j ∈ vs) (σ : St) (H : Hp) (Q : VK) (s : tN X.K X.mg W (nLc it γ t f vs) σ H Q) : tLc (tI X.K X.mg W it) (tG X.K X.mg W ts γ) (tT X.K X.mg W t) (tE X.K X.mg W f) vs σ H Q := by
  obtain ⟨F, R, A, ρ, rel, s⟩ := s
  refine ⟨F, R, A, ρ, rel, sat_mono (sat_bind s) fun xs ρ1 s1 A1 J H1 p1 rel1 wk D hD => ?_⟩
  have h0 : F.H0 D = none := (rel1.fresh hD).2
  have hRR : ∀ a, (R a ∨ a = D) → R a ∨ H1 a = none := fun a z => z.imp_right fun q => by rw [q]; exact hD
  have hup : ∀ a, R a → R a ∨ a = D := fun a z => .inl z
  generalize hP : (fun (ds : List PyData) (ρ2 : En) => sat (WW X.K X.mg W F R) (fun xs ρ' => ∀ A' p vs H', Stp A H A' H' → Rel X.K X.mg F (fun a => R a ∨ a = p) A' ρ' σ H' → ¬ Bd R A' p → H p = none → F.H0 p = none →
    H' p = some (.lst vs) → RpAll (Bd (fun a => R a ∨ a = p) A') H' vs xs → Q (.ref p) H') (Out.ok ds (backE ρ1 ρ2 vs))) = P at *
  have s1' : sat (WW X.K X.mg W F R) P (lcGo γ t f vs xs [] (wipeE ρ1 vs)) := by
    rw [← hP]
    exact sat_bind s1
  refine ⟨fun i m Hc => m = xs.length - i ∧ i ≤ xs.length ∧ ∃ ρb A' acc va, sat (WW X.K X.mg W F R) P (lcGo γ t f vs (xs.drop i) acc (wipeE ρb vs)) ∧ Rel X.K X.mg F (fun a => R a ∨ a = D) A' (wipeE ρb vs) (wipe σ vs) Hc ∧ Hc D = some (.lst va) ∧
    RpAll (Bd (fun a => R a ∨ a = D) A') Hc va acc ∧ Stp A1 H1 A' Hc, ⟨xs.length, rfl, Nat.zero_le _, ρ1, A1, [], [], s1', (rel1.guard hD).wipe vs, upd_same, .nil, (Ex0.new hD).stp⟩, ?_⟩
  rintro i m Hc ⟨rfl, hi, ρb, A', acc, va, s2, rel2, hDc, ra, p2⟩
  obtain ⟨wstop, wgo⟩ := wk (fun a => R a ∨ a = D) A' Hc hRR (fun a z => ⟨rel2.dom a z, rel2.nt a z⟩) p2 i
  by_cases hlt : i < xs.length
  · right
    obtain ⟨jgo, jy⟩ := wgo xs[i] (by simp [hlt])
    refine ⟨jgo, fun Hn => ∃ ρb A' acc va, sat (WW X.K X.mg W F R) P (lcGo γ t f vs (xs.drop (i + 1)) acc (wipeE ρb vs)) ∧ Rel X.K X.mg F (fun a => R a ∨ a = D) A' (wipeE ρb vs) (wipe σ vs) Hn ∧ Hn D = some (.lst va) ∧
      RpAll (Bd (fun a => R a ∨ a = D) A') Hn va acc ∧ Stp A1 H1 A' Hn, fun Hn q => ⟨xs.length - (i + 1), by omega, rfl, hlt, q⟩, fun x H2 y => ?_⟩
    obtain ⟨x2, rx⟩ := jy x H2 y
    rw [List.drop_eq_getElem_cons hlt] at s2
    have keepD : ∀ {A3 : Nat → List Addr} {H3 : Hp}, Stp A' Hc A3 H3 → H3 D = some (.lst va) := fun p3 => (p3.back hDc fun j z => rel2.sep j D z (.inr rfl)).1
    refine ⟨F, _, A', _, _, rel2.grow x2, rx, sat_up hup (sat_bind s2) fun _ ρ3 s3 A3 σ3 H3 p3 rel3 w3 => ?_⟩
    have w3' : wipe σ3 vs = wipe σ vs := (w3.wipe hts).trans (wipe_idem σ vs)
    refine ⟨w3', F, _, A3, ρ3, rel3, sat_up hup (sat_bind s3) fun bb ρ4 s4 A4 H4 p4 rel4 => ?_⟩
    have q4 : Stp A' Hc A4 H4 := (x2.stp.trans p3).trans p4
    cases bb with
    | false =>
      refine ⟨ρ4, A4, acc, va, s4, ?_, keepD q4, ra.stp q4, p2.trans q4⟩
      rw [← w3']
      exact rel4.wipe vs
    | true =>
      refine ⟨F, _, A4, ρ4, rel4, sat_up hup (sat_bind s4) fun d ρ5 s5 A5 v5 H5 p5 rel5 r5 => ?_⟩
      have q5 : Stp A' Hc A5 H5 := q4.trans p5
      have s5' : sat (WW X.K X.mg W F R) P (if acc.length < maxSeq then lcGo γ t f vs (xs.drop (i + 1)) (acc ++ [d]) (wipeE ρ5 vs) else .stuck) := s5
      by_cases hz : acc.length < maxSeq
      · rw [if_pos hz] at s5'
        refine ⟨va, keepD q5, by rw [ra.length]; exact hz, ρ5, A5, acc ++ [d], va ++ [v5], s5', ?_, upd_same, ?_, (p2.trans q5).updNew hD⟩
        · rw [← w3']
          exact (rel5.wipe vs).writeR (.inr rfl) h0
        · refine ((ra.stp q5).append (.cons r5 .nil)).imp (fun _ z => z) fun a u ea n => ?_
          rw [upd_ne (fun (z : a = D) => n (.inl (.inr z)))]
          exact ea
      · rw [if_neg hz] at s5'
        exact s5'.elim
  · left
    have e : i = xs.length := by omega
    subst e
    refine ⟨wstop (Nat.le_refl _), ?_⟩
    rw [List.drop_length] at s2
    have s3 : P acc (wipeE ρb vs) := s2
    rw [← hP] at s3
    obtain ⟨A2, sb, rel3⟩ := rel1.back hRR p2 rel2.unwipe vs
    refine s3 A2 D va Hc (p1.trans (p2.trans (.sub sb))) rel3 (fun z => ?_) (stp_none p1 hD) h0 hDc (ra.sub sb)
    rcases z with z | ⟨j, z⟩
    · exact rel1.dom D (.inl z) hD
    · exact rel3.sep j D z (.inr rfl)
theorem n_lc (hc : X.calm = true) (hN : X.N.Nodup) (hi : PI X tg iter (tI X.K X.mg W it)) (ok : BlkOk X.N X.env.scope scope own) (hts : ∀ j ∈ ts, j ∈ own.map (·.2))
    (hg : ∀ (s : Shared) (H : Hp) (C : Addr) (cl : List (Str × Addr)) (fp : List Addr), PG (X.blk s H scope (compEnvC scope cl C X.env) fp) tg (tG X.K X.mg W ts γ)) (ht : ∀ (s : Shared) (H : Hp) (C : Addr) (cl : List (Str × Addr)) (fp : List Addr), PTs (X.blk s H scope (compEnvC scope cl C X.env) fp) ifs (tT X.K X.mg W t))
    (he : ∀ (s : Shared) (H : Hp) (C : Addr) (cl : List (Str × Addr)) (fp : List Addr), PE (X.blk s H scope (compEnvC scope cl C X.env) fp) elt (tE X.K X.mg W f)) (hs : ∀ x, foldedSetIterable iter X.env x = pure x := by intro _; rfl) :
    PE X (.ListComp elt [⟨tg, iter, ifs, 0⟩] scope pos) (tN X.K X.mg W (nLc it γ t f (own.map (·.2)))) := PE.imp (pe_lc hc hN hi ok hg ht he hs) (tLc_of hts)

/-! ### statements -/
/-- what a new list is -/
def NewAt (H0 : Hp) (R : Addr → Prop) (A' : Nat → List Addr) (H' : Hp) (v : V) (xs : List PyData) : Prop := ∃ p vs, v = .ref p ∧ ¬ Bd R A' p ∧ H0 p = none ∧ H' p = some (.lst vs) ∧ RpAll (Bd (fun a => R a ∨ a = p) A') H' vs xs
def EndsAt (F : Fm) (R : Addr → Prop) (D : Ends) (A' : Nat → List Addr) (σ' : St) (H' : Hp) : Fl → Prop
  | .nx => D.nx σ' H'
  | .brk => D.bk σ' H'
  | .ct => D.ct σ' H'
  | .ret d => ∀ v, Rp (Bd R A') H' v d → D.rt v H'
  | .rtn xs => ∀ v, NewAt F.H0 R A' H' v xs → D.rt v H'
end
section
variable (K : PySem.W.Frag) (mg : Str → Option Value) (W : WX)
/-- ts: the slots that it sets -/
def tS (ts : List Nat) (s : Ss) : TS := fun D σ H => ∃ F R A ρ, Rel K mg F R A ρ σ H ∧ sat (WW K mg W F R) (fun fl ρ' => ∀ A' σ' H', Stp A H A' H' → Rel K mg F R A' ρ' σ' H' → Kp ts σ σ' → EndsAt F R D A' σ' H' fl) (s ρ)
/-- a value for a name: data, or new own objects (at l) -/
def tR (r : Rs) : TE := fun σ H Q => ∃ F R A ρ, Rel K mg F R A ρ σ H ∧ sat (WW K mg W F R) (fun sv ρ' => ∀ A' l v H', Stp A H A' H' → Rel K mg F (fun a => R a ∨ a ∈ l) A' ρ' σ H' → (∀ a ∈ l, ¬ R a ∧ F.H0 a = none ∧ H a = none) → l.Nodup →
  RepS K mg (Bd (fun a => R a ∨ a ∈ l) A') H' l v sv → Q v H') (r ρ)
end
section
variable {X : Cx} {W : WX} {e e1 e2 e3 tg iter elt : Expr} {es ifs : List Expr} {f g h : Ex} {l k it : Ls} {pos p p2 p3 : Pos} {i j : Nat} {t u : Ts} {ts us : List Nat} {γ : Tg} {r r' : Rs} {a b : Ss} {st : Stmt} {rest sts sts2 : List Stmt} {x y : Str}
theorem s_nil : PSs X [] (tS X.K X.mg W [] sNext) := PSs.imp pss_nil fun D σ H ⟨F, R, A, ρ, rel, s⟩ => s A σ H (.refl A H) rel .refl
theorem s_pass : PS X (.Pass pos) (tS X.K X.mg W [] sNext) := PS.imp ps_pass fun D σ H ⟨F, R, A, ρ, rel, s⟩ => s A σ H (.refl A H) rel .refl
theorem s_stuck : PS X st (tS X.K X.mg W [] sStuck) := PS.imp ps_never fun D σ H ⟨F, R, A, ρ, rel, s⟩ => s
theorem s_brk : PS X (.Break pos) (tS X.K X.mg W [] sBrk) := PS.imp ps_break fun D σ H ⟨F, R, A, ρ, rel, s⟩ => s A σ H (.refl A H) rel .refl
theorem s_ct : PS X (.Continue pos) (tS X.K X.mg W [] sCt) := PS.imp ps_continue fun D σ H ⟨F, R, A, ρ, rel, s⟩ => s A σ H (.refl A H) rel .refl
theorem s_one (h : PS X st (tS X.K X.mg W ts a)) : PSs X [st] (tS X.K X.mg W ts a) := pss_one h
theorem ends_seq {F : Fm} {D D' : Ends} {R : Addr → Prop} {A : Nat → List Addr} {σ : St} {H : Hp} {fl : Fl} (hn : fl ≠ .nx) (h : EndsAt F R D A σ H fl) (hr : D'.rt = D.rt) (hb : D'.bk = D.bk) (hc : D'.ct = D.ct) : EndsAt F R D' A σ H fl := by
  cases fl with
  | nx => exact absurd rfl hn
  | brk => show D'.bk σ H; rw [hb]; exact h
  | ct => show D'.ct σ H; rw [hc]; exact h
  | ret d => intro v z; rw [hr]; exact h v z
  | rtn d => intro v z; rw [hr]; exact h v z
theorem s_seq (h1 : PS X st (tS X.K X.mg W ts a)) (h2 : PSs X rest (tS X.K X.mg W us b)) : PSs X (st :: rest) (tS X.K X.mg W (ts ++ us) (sSeq a b)) :=
  PSs.imp (pss_cons h1 h2) fun D σ H ⟨F, R, A, ρ, rel, s⟩ => by
    refine ⟨F, R, A, ρ, rel, sat_mono (sat_bind s) fun fl ρ1 s1 A1 σ1 H1 p1 rel1 k1 => ?_⟩
    cases fl with
    | nx =>
      refine ⟨F, R, A1, ρ1, rel1, sat_mono s1 fun fl ρ2 s2 A2 σ2 H2 p2 rel2 k2 => ?_⟩
      exact s2 A2 σ2 H2 (p1.trans p2) rel2 (k1.trans k2)
    | brk => exact s1 A1 σ1 H1 p1 rel1 (k1.mono fun t h => List.mem_append_left _ h)
    | ct => exact s1 A1 σ1 H1 p1 rel1 (k1.mono fun t h => List.mem_append_left _ h)
    | ret d => exact s1 A1 σ1 H1 p1 rel1 (k1.mono fun t h => List.mem_append_left _ h)
    | rtn d => exact s1 A1 σ1 H1 p1 rel1 (k1.mono fun t h => List.mem_append_left _ h)
theorem r_dat (h : PE X e (tE X.K X.mg W f)) : PE X e (tR X.K X.mg W (rD f)) := PE.imp h fun σ H Q ⟨F, R, A, ρ, rel, s⟩ => by
  refine ⟨F, R, A, ρ, rel, sat_mono (sat_bind s) fun d ρ1 s1 A1 v H1 p1 rel1 r1 => ?_⟩
  have e : ∀ B, (fun a => B a ∨ a ∈ ([] : List Addr)) = B := fun B => by funext a; simp
  refine s1 A1 [] v H1 p1 (by rw [e]; exact rel1) (fun a z => nomatch z) List.nodup_nil ?_
  rw [e]
  exact r1
theorem r_new (h : PE X e (tN X.K X.mg W l)) : PE X e (tR X.K X.mg W (rN l)) := PE.imp h fun σ H Q ⟨F, R, A, ρ, rel, s⟩ => by
  refine ⟨F, R, A, ρ, rel, sat_mono (sat_bind s) fun d ρ1 s1 A1 q vs H1 p1 rel1 hn hq h0 hl r1 => ?_⟩
  have e : (fun a => R a ∨ a ∈ [q]) = fun a => R a ∨ a = q := by funext a; simp
  refine s1 A1 [q] _ H1 p1 (by rw [e]; exact rel1) (fun a z => ?_) (by simp) ?_
  · have z : a = q := by simpa using z
    subst z
    exact ⟨fun z => hn (.inl z), h0, hq⟩
  · rw [e]
    exact ⟨q, vs, rfl, rfl, hl, r1⟩
/-- the store of such a value -/
theorem put_new {K : PySem.W.Frag} {mg : Str → Option Value} {F : Fm} {R : Addr → Prop} {A : Nat → List Addr} {ρ : En} {σ : St} {H : Hp} {l : List Addr} {v : V} {sv : SV} (rel : Rel K mg F (fun a => R a ∨ a ∈ l) A ρ σ H) (hl : ∀ a ∈ l, ¬ R a ∧ F.H0 a = none) (hn : l.Nodup) (r : RepS K mg (Bd (fun a => R a ∨ a ∈ l) A) H l v sv) (hi : i < σ.length) :
    Rel K mg F R (own1 A i l) (ρ.set i (some sv)) (σ.set i (some v)) H := by
  refine rel.put hi (r.imp (fun a z => ?_) (fun _ _ e _ => e) fun _ _ _ e => e) (fun a z => .inl z) (fun a z => ⟨(hl a z).1, .inl (.inr z), .inl (hl a z).2⟩) hn
  rcases z with z | ⟨j, z⟩
  · exact .inl (.inl z)
  · by_cases hj : j = i
    · rw [hj, own1_same] at z; exact .inl (.inr z)
    · rw [own1_ne hj] at z; exact .inr ⟨j, z⟩
theorem stp_own1 {A A1 : Nat → List Addr} {H H1 : Hp} {l : List Addr} (x : Stp A H A1 H1) (h : ∀ a ∈ l, H a = none) : Stp A H (own1 A1 i l) H1 where
  ext := x.ext
  own := fun j a z => by
    by_cases hj : j = i
    · rw [hj, own1_same] at z; exact .inr (h a z)
    · rw [own1_ne hj] at z; exact x.own j a z
theorem tSet_of (σ : St) (H : Hp) (D : Ends) (s : tS X.K X.mg W [i] (sSet i r) D σ H) : tAsg (tR X.K X.mg W r) (gName i) D σ H := by
  obtain ⟨F, R, A, ρ, rel, s⟩ := s
  refine ⟨F, R, A, ρ, rel, sat_mono (sat_bind s) fun sv ρ1 s1 A1 l v H1 p1 rel1 hl hn r1 => ?_⟩
  show D.nx (σ.set i (some v)) H1
  by_cases hi : i < σ.length
  · exact s1 (own1 A1 i l) _ H1 (stp_own1 p1 fun a z => (hl a z).2.2) (put_new rel1 (fun a z => ⟨(hl a z).1, (hl a z).2.1⟩) hn r1 hi) .set
  · have e1 : σ.set i (some v) = σ := List.set_eq_of_length_le (by omega)
    have e2 : ρ1.set i (some sv) = ρ1 := List.set_eq_of_length_le (by rw [rel1.len]; omega)
    have s' : ∀ A' σ' H', Stp A H A' H' → Rel X.K X.mg F R A' (ρ1.set i (some sv)) σ' H' → Kp [i] σ σ' → D.nx σ' H' := s1
    rw [e2] at s'
    rw [e1]
    exact s' A1 σ H1 p1 (rel1.less fun a z => .inl z) .refl
end
end Mo
end
section
set_option autoImplicit false
set_option linter.all false
set_option Elab.async false
set_option maxHeartbeats 1000000
/-! MJ6: stores, loops, the methods of lists. -/
namespace Mo
open PySem L2

section
variable {B B' : Addr → Prop} {H H' : Hp} (key : ∀ a o, H a = some o → ¬ B a → ¬ B' a ∧ H' a = some o)
include key
mutual
theorem Rp.keyed : ∀ {d : PyData} {v : V}, Rp B H v d → Rp B' H' v d
  | _, _, .non => .non
  | _, _, .bl b => .bl b
  | _, _, .int i => .int i
  | _, _, .str y => .str y
  | _, _, .lst h n r => .lst (key _ _ h n).2 (key _ _ h n).1 (RpAll.keyed r)
  | _, _, .tup h n r => .tup (key _ _ h n).2 (key _ _ h n).1 (RpAll.keyed r)
theorem RpAll.keyed : ∀ {ds : List PyData} {vs : List V}, RpAll B H vs ds → RpAll B' H' vs ds
  | _, _, .nil => .nil
  | _, _, .cons h r => .cons (Rp.keyed h) (RpAll.keyed r)
end
theorem RepKL.keyed : ∀ {ws : List (Key × V)} {as : List Addr} {kvs : List (Int × List PyData)}, (∀ a ∈ as, ∀ o, H a = some o → H' a = some o) → RepKL B H ws as kvs → RepKL B' H' ws as kvs
  | _, _, _, _, .nil => .nil
  | _, _, _, k, .cons h r t => .cons (k _ List.mem_cons_self _ h) (r.keyed key) (RepKL.keyed (fun a ha => k a (List.mem_cons_of_mem _ ha)) t)
theorem RepS.keyed {K : PySem.W.Frag} {mg : Str → Option Value} {l : List Addr} {v : V} {sv : SV} (h : RepS K mg B H l v sv) (hl : ∀ a ∈ l, ∀ o, H a = some o → H' a = some o) : RepS K mg B' H' l v sv := by
  cases sv with
  | dat d => exact Rp.keyed key h
  | own xs =>
    obtain ⟨a, vs, rfl, rfl, e, r⟩ := h
    exact ⟨a, vs, rfl, rfl, hl a (by simp) _ e, r.keyed key⟩
  | dI kvs =>
    obtain ⟨a, o, ws, rfl, e, n, r⟩ := h
    exact ⟨a, o, ws, rfl, (key a _ e n).2, (key a _ e n).1, Paired.mapP r fun _ _ z => ⟨z.1, z.2.keyed key⟩⟩
  | dP kvs =>
    obtain ⟨a, o, ws, rfl, e, n, r⟩ := h
    exact ⟨a, o, ws, rfl, (key a _ e n).2, (key a _ e n).1, Paired.mapP r fun _ _ z => ⟨z.1, z.2.keyed key⟩⟩
  | dL kvs =>
    obtain ⟨a, o, ws, rfl, e, n, r⟩ := h
    exact ⟨a, o, ws, rfl, (key a _ e n).2, (key a _ e n).1, r.keyed key fun b hb => hl b hb⟩
  | fnv x => exact h
  | scr ns =>
    obtain ⟨a, rfl, s | ⟨s, n⟩⟩ := h
    · exact ⟨a, rfl, .inl s⟩
    · rcases s with s | ⟨o, s⟩
      · exact ⟨a, rfl, .inr ⟨.inl (key a _ s n).2, (key a _ s n).1⟩⟩
      · exact ⟨a, rfl, .inr ⟨.inr ⟨o, (key a _ s n).2⟩, (key a _ s n).1⟩⟩
end
theorem stp_key {R R' : Addr → Prop} {A A' : Nat → List Addr} {H H' : Hp} (hR : ∀ a, R' a → R a ∨ H a = none) (x : Stp A H A' H') (a : Addr) (o : HO) (e : H a = some o) (n : ¬ Bd R A a) : ¬ Bd R' A' a ∧ H' a = some o := by
  have q := x.back e fun i z => n (.inr ⟨i, z⟩)
  refine ⟨fun z => ?_, q.1⟩
  rcases z with z | ⟨i, z⟩
  · rcases hR a z with w | w
    · exact n (.inl w)
    · rw [w] at e; cases e
  · exact q.2 i z

section
variable {X : Cx} {W : WX} {e e1 e2 e3 tg iter elt : Expr} {es ifs : List Expr} {f g h : Ex} {l k it : Ls} {pos p p2 p3 : Pos} {i j : Nat} {t u : Ts} {ts us : List Nat} {γ : Tg} {r r' : Rs} {a b : Ss} {st : Stmt} {rest sts sts2 : List Stmt} {x y : Str} {scope : Scope} {own : List (Str × Nat)}

/-! ### stores -/
theorem put_any {K : PySem.W.Frag} {mg : Str → Option Value} {F : Fm} {R : Addr → Prop} {A : Nat → List Addr} {ρ : En} {σ : St} {H : Hp} {l : List Addr} {v : V} {sv : SV} (rel : Rel K mg F (fun a => R a ∨ a ∈ l) A ρ σ H) (hl : ∀ a ∈ l, ¬ R a ∧ F.H0 a = none) (hn : l.Nodup) (r : RepS K mg (Bd (fun a => R a ∨ a ∈ l) A) H l v sv) :
    ∃ A2, Rel K mg F R A2 (ρ.set i (some sv)) (σ.set i (some v)) H ∧ ∀ j a, a ∈ A2 j → (∃ k, a ∈ A k) ∨ a ∈ l := by
  by_cases hi : i < σ.length
  · refine ⟨own1 A i l, put_new rel hl hn r hi, fun j a z => ?_⟩
    by_cases hj : j = i
    · rw [hj, own1_same] at z; exact .inr z
    · rw [own1_ne hj] at z; exact .inl ⟨j, z⟩
  · have e1 : σ.set i (some v) = σ := List.set_eq_of_length_le (by omega)
    have e2 : ρ.set i (some sv) = ρ := List.set_eq_of_length_le (by rw [rel.len]; omega)
    rw [e1, e2]
    exact ⟨A, rel.less fun a z => .inl z, fun j a z => .inl ⟨j, z⟩⟩
theorem s_set (hN : X.N.Nodup) (hi : X.N[i]? = some x) (hx : Loc X.env.scope x) (he : PE X e (tR X.K X.mg W r)) (hs : swapsWith e (some (.Name x p)) pos.line X.env = pure false := by rfl) (hf : X.fn x = true ∨ X.env.scope.names.lookup x = some .local := by first | exact .inl rfl | exact .inr rfl | assumption) :
    PS X (.Assign [.Name x p] e pos) (tS X.K X.mg W [i] (sSet i r)) := PS.imp (ps_set hN hi hx he hs hf) fun D σ H s => tSet_of σ H D s
/-- name = [..] -/
theorem tSetLc_of {vs : List Nat} (hts : ∀ j ∈ ts, j ∈ vs) (σ : St) (H : Hp) (D : Ends) (s : tAsg (tN X.K X.mg W (nLc it γ t f vs)) (gName i) D σ H) :
    tAsg (tLc (tI X.K X.mg W it) (tG X.K X.mg W ts γ) (tT X.K X.mg W t) (tE X.K X.mg W f) vs) (gName i) D σ H := tLc_of hts σ H _ s
theorem tN_own (σ : St) (H : Hp) (Q : VK) (s : tR X.K X.mg W (rN l) σ H Q) : tN X.K X.mg W l σ H Q := by
  obtain ⟨F, R, A, ρ, rel, s⟩ := s
  refine ⟨F, R, A, ρ, rel, sat_mono (sat_bind s) fun d ρ1 s1 A1 q vs H1 p1 rel1 hn hq h0 hl r1 => ?_⟩
  have e : (fun a => R a ∨ a ∈ [q]) = fun a => R a ∨ a = q := by funext a; simp
  refine s1 A1 [q] _ H1 p1 (by rw [e]; exact rel1) (fun a z => ?_) (by simp) ?_
  · have z : a = q := by simpa using z
    subst z
    exact ⟨fun z => hn (.inl z), h0, hq⟩
  · rw [e]
    exact ⟨q, vs, rfl, rfl, hl, r1⟩
theorem tN_dat (σ : St) (H : Hp) (Q : VK) (s : tR X.K X.mg W (rD (cN l)) σ H Q) : tN X.K X.mg W l σ H Q := by
  obtain ⟨F, R, A, ρ, rel, s⟩ := s
  refine ⟨F, R, A, ρ, rel, sat_mono (sat_bind (sat_bind s)) fun d ρ1 s0 A1 q vs H1 p1 rel1 hn hq h0 hl r1 => ?_⟩
  have s1 := s0
  unfold sat at s1
  have e : ∀ B, (fun a => B a ∨ a ∈ ([] : List Addr)) = B := fun B => by funext a; simp
  have hB : ∀ a, Bd R A1 a → Bd (fun a => R a ∨ a = q) A1 a := fun a z => z.elim (fun q => .inl (.inl q)) .inr
  refine s1 A1 [] _ H1 p1 (by rw [e]; exact rel1.less fun a z => .inl z) (fun a z => nomatch z) List.nodup_nil ?_
  rw [e]
  exact Rp.lst hl hn (r1.imp hB fun _ _ e _ => e)
section
variable {py spos : Pos} (hc : X.calm = true) (hN : X.N.Nodup) (hy : X.N[i]? = some y) (hyl : X.env.scope.names.lookup y = some .local)
    (hsw : swapsWith (.ListComp elt [⟨tg, iter, ifs, 0⟩] scope pos) (some (.Name y py)) spos.line X.env = pure true) (hi : PI X tg iter (tI X.K X.mg W it)) (ok : BlkOk X.N X.env.scope scope own) (hts : ∀ j ∈ ts, j ∈ own.map (·.2))
    (hg : ∀ (s : Shared) (H : Hp) (C : Addr) (cl : List (Str × Addr)) (fp : List Addr), PG (X.blk s H scope (compEnvC scope cl C X.env) fp) tg (tG X.K X.mg W ts γ)) (ht : ∀ (s : Shared) (H : Hp) (C : Addr) (cl : List (Str × Addr)) (fp : List Addr), PTs (X.blk s H scope (compEnvC scope cl C X.env) fp) ifs (tT X.K X.mg W t))
    (he : ∀ (s : Shared) (H : Hp) (C : Addr) (cl : List (Str × Addr)) (fp : List Addr), PE (X.blk s H scope (compEnvC scope cl C X.env) fp) elt (tE X.K X.mg W f)) (hs : ∀ x, foldedSetIterable iter X.env x = pure x)
include hc hN hy hyl hsw hi ok hts hg ht he hs
theorem s_setLcN : PS X (.Assign [.Name y py] (.ListComp elt [⟨tg, iter, ifs, 0⟩] scope pos) spos) (tS X.K X.mg W [i] (sSet i (rN (nLc it γ t f (own.map (·.2)))))) :=
  PS.imp (ps_setLc hc hN hy hyl hsw hi ok hg ht he hs) fun D σ H s => tSetLc_of hts σ H D (tN_own σ H _ (tSet_of σ H D s))
theorem s_setLcD : PS X (.Assign [.Name y py] (.ListComp elt [⟨tg, iter, ifs, 0⟩] scope pos) spos) (tS X.K X.mg W [i] (sSet i (rD (cN (nLc it γ t f (own.map (·.2))))))) :=
  PS.imp (ps_setLc hc hN hy hyl hsw hi ok hg ht he hs) fun D σ H s => tSetLc_of hts σ H D (tN_dat σ H _ (tSet_of σ H D s))
end
theorem s_par {px py pt : Pos} {kt k2 pt2} (hc : X.calm = true) (hN : X.N.Nodup) (hi : X.N[i]? = some x) (hj : X.N[j]? = some y) (hij : i ≠ j)
    (hx : X.env.scope.names.lookup x = some .local ∨ X.env.scope.names.lookup x = some .cell) (hxl : X.env.scope.names.lookup x = some .local) (hyl : X.env.scope.names.lookup y = some .local) (h1 : PE X e1 (tR X.K X.mg W r)) (h2 : PE X e2 (tR X.K X.mg W r'))
    (hw : swappedStores [.Tuple [.Name x px, .Name y py] kt pt] (.Tuple [e1, e2] k2 pt2) X.env = pure (some [x, y]))
    (hs : swapsWithSole [.Tuple [.Name x px, .Name y py] kt pt] (.Tuple [e1, e2] k2 pt2) pos.line X.env = pure false := by rfl)
    (na : starEach [e1, e2] X.env = (false, eval e1 X.env) :: starEach [e2] X.env := by rfl) (na2 : starEach [e2] X.env = (false, eval e2 X.env) :: starEach [] X.env := by rfl) :
    PS X (.Assign [.Tuple [.Name x px, .Name y py] kt pt] (.Tuple [e1, e2] k2 pt2) pos) (tS X.K X.mg W [i, j] (sPar i j r r')) :=
  PS.imp (ps_par hc hN hi hj hij hxl hyl (pa_cons h1 (pa_cons h2 pa_nil na2) na) hw hs) fun D σ H ⟨F, R, A, ρ, rel, s⟩ => by
    refine ⟨F, R, A, ρ, rel, sat_mono (sat_bind s) fun sv ρ1 s1 A1 l1 v H1 p1 rel1 hl1 hn1 r1 => ?_⟩
    refine ⟨F, _, A1, ρ1, rel1, sat_up (fun a z => .inl z) (sat_bind s1) fun sw ρ2 s2 A2 l2 w H2 p2 rel2 hl2 hn2 r2 => ⟨v, w, rfl, ?_⟩⟩
    have rel2' : Rel X.K X.mg F (fun a => (R a ∨ a ∈ l2) ∨ a ∈ l1) A2 ρ2 σ H2 := rel2.less fun a z => by
      rcases z with (z | z) | z
      · exact .inl (.inl z)
      · exact .inr z
      · exact .inl (.inr z)
    have r1' : RepS X.K X.mg (Bd (fun a => (R a ∨ a ∈ l2) ∨ a ∈ l1) A2) H2 l1 v sv := by
      refine RepS.keyed (stp_key (fun a z => ?_) p2) r1 fun a ha o e => (p2.back e fun i z => rel1.sep i a z (.inr ha)).1
      rcases z with (z | z) | z
      · exact .inl (.inl z)
      · exact .inr (hl2 a z).2.2
      · exact .inl (.inr z)
    obtain ⟨A3, q1, k1⟩ := put_any (i := i) rel2' (fun a z => ⟨fun y => y.elim (hl1 a z).1 fun y => (hl2 a y).1 (.inr z), (hl1 a z).2.1⟩) hn1 r1'
    have r2' : RepS X.K X.mg (Bd (fun a => R a ∨ a ∈ l2) A3) H2 l2 w sw := RepS.imp r2 (fun a z => by
      rcases z with z | ⟨m, z⟩
      · exact .inl (z.elim (fun z => .inl (.inl z)) .inr)
      · rcases k1 m a z with ⟨n, z⟩ | z
        · exact .inr ⟨n, z⟩
        · exact .inl (.inl (.inr z))) (fun _ _ e _ => e) fun _ _ _ e => e
    obtain ⟨A4, q2, k2⟩ := put_any (i := j) q1 (fun a z => ⟨fun y => (hl2 a z).1 (.inl y), (hl2 a z).2.1⟩) hn2 r2'
    refine s2 A4 _ H2 ⟨(p1.trans p2).ext, fun m a z => ?_⟩ q2 (Kp.set.trans Kp.set)
    rcases k2 m a z with ⟨n, z⟩ | z
    · rcases k1 n a z with ⟨n, z⟩ | z
      · exact (p1.trans p2).own n a z
      · exact .inr (hl1 a z).2.2
    · exact .inr (stp_none p1 (hl2 a z).2.2)
end
end Mo
end
section
set_option autoImplicit false
set_option linter.all false
set_option Elab.async false
set_option maxHeartbeats 1000000
/-! MJ7: flow, the methods of lists. -/
namespace Mo
open PySem L2

section
variable {X : Cx} {W : WX} {e e1 e2 e3 tg iter elt : Expr} {es ifs : List Expr} {f g h : Ex} {l k it : Ls} {pos p p2 p3 apos : Pos} {i j : Nat} {t u : Ts} {ts us : List Nat} {γ : Tg} {r r' : Rs} {a b : Ss} {st : Stmt} {body rest sts sts2 : List Stmt} {x y : Str} {scope : Scope} {own : List (Str × Nat)}
theorem s_asg (he : PE X e (tE X.K X.mg W f)) (hg : PG X tg (tG X.K X.mg W ts γ)) (hs : swapsWithSole [tg] e pos.line X.env = pure false := by rfl) (hw : swappedStores [tg] e X.env = pure none := by rfl) (h1 : (assignEach [tg] X.env).map (·.2) = [assign tg X.env] := by rfl) :
    PS X (.Assign [tg] e pos) (tS X.K X.mg W ts (sAsg f γ)) := PS.imp (ps_asg he hg hs hw h1) fun D σ H ⟨F, R, A, ρ, rel, s⟩ => by
  refine ⟨F, R, A, ρ, rel, sat_mono (sat_bind s) fun d ρ1 s1 A1 v H1 p1 rel1 r1 => ?_⟩
  refine ⟨F, R, A1, ρ1, d, rel1, r1, sat_mono (sat_bind s1) fun _ ρ2 s2 A2 σ2 H2 p2 rel2 k2 => ?_⟩
  exact s2 A2 σ2 H2 (p1.trans p2) rel2 k2
theorem s_drop (he : PE X e (tE X.K X.mg W f)) (hs : swapsWith e none pos.line X.env = pure false := by rfl) : PS X (.Expr e pos) (tS X.K X.mg W [] (sDrop f)) := PS.imp (ps_expr he hs) fun D σ H ⟨F, R, A, ρ, rel, s⟩ => by
  refine ⟨F, R, A, ρ, rel, sat_mono (sat_bind s) fun d ρ1 s1 A1 v H1 p1 rel1 r1 => ?_⟩
  exact s1 A1 σ H1 p1 rel1 .refl
theorem s_ret (he : PE X e (tE X.K X.mg W f)) : PS X (.Return (some e) pos) (tS X.K X.mg W [] (sRet f)) := PS.imp (ps_ret he) fun D σ H ⟨F, R, A, ρ, rel, s⟩ => by
  refine ⟨F, R, A, ρ, rel, sat_mono (sat_bind s) fun d ρ1 s1 A1 v H1 p1 rel1 r1 => ?_⟩
  exact s1 A1 σ H1 p1 rel1 .refl v r1
theorem s_retL (he : PE X e (tN X.K X.mg W l)) : PS X (.Return (some e) pos) (tS X.K X.mg W [] (sRetL l)) := PS.imp (ps_ret he) fun D σ H ⟨F, R, A, ρ, rel, s⟩ => by
  refine ⟨F, R, A, ρ, rel, sat_mono (sat_bind s) fun xs ρ1 s1 A1 p vs H1 p1 rel1 hn hp h0 hl r1 => ?_⟩
  exact s1 A1 σ H1 p1 (rel1.less fun a z => .inl z) .refl (.ref p) ⟨p, vs, rfl, hn, h0, hl, r1⟩
theorem s_retN : PS X (.Return none pos) (tS X.K X.mg W [] sRetN) := PS.imp ps_retN fun D σ H ⟨F, R, A, ρ, rel, s⟩ => s A σ H (.refl A H) rel .refl .non .non
theorem s_if (ht : PT X e (tT X.K X.mg W t)) (h1 : PSs X sts (tS X.K X.mg W ts a)) (h2 : PSs X sts2 (tS X.K X.mg W us b)) : PS X (.If e sts sts2 pos) (tS X.K X.mg W (ts ++ us) (sIf t a b)) := PS.imp (ps_if ht h1 h2) fun D σ H ⟨F, R, A, ρ, rel, s⟩ => by
  refine ⟨F, R, A, ρ, rel, sat_mono (sat_bind s) fun c ρ1 s1 A1 H1 p1 rel1 => ?_⟩
  cases c with
  | true => exact ⟨F, R, A1, ρ1, rel1, sat_mono s1 fun fl ρ2 s2 A2 σ2 H2 p2 rel2 k2 => s2 A2 σ2 H2 (p1.trans p2) rel2 (k2.mono fun t h => List.mem_append_left _ h)⟩
  | false => exact ⟨F, R, A1, ρ1, rel1, sat_mono s1 fun fl ρ2 s2 A2 σ2 H2 p2 rel2 k2 => s2 A2 σ2 H2 (p1.trans p2) rel2 (k2.mono fun t h => List.mem_append_right _ h)⟩
theorem s_for (hp : PassesOwn (model X.prog X.w) X.A X.env X.xe) (hc : X.calm = true) (hi : PI X tg iter (tI X.K X.mg W it)) (hg : PG X tg (tG X.K X.mg W ts γ)) (hb : PSs X body (tS X.K X.mg W us b)) (hs : ∀ x, foldedSetIterable iter X.env x = pure x := by intro _; rfl) :
    PS X (.For tg iter body [] pos) (tS X.K X.mg W (ts ++ us) (sFor it γ b)) := PS.imp (ps_for hp hc hi hg hb hs) fun D σ H ⟨F, R, A, ρ, rel, s⟩ => by
  refine ⟨F, R, A, ρ, rel, sat_mono (sat_bind s) fun xs ρ1 s1 A1 J H1 p1 rel1 wk => ?_⟩
  generalize hP : (fun (fl : Fl) (ρ' : En) => ∀ A' σ' H', Stp A H A' H' → Rel X.K X.mg F R A' ρ' σ' H' → Kp (ts ++ us) σ σ' → EndsAt F R D A' σ' H' fl) = P at *
  refine ⟨fun i m σc Hc => m = xs.length - i ∧ i ≤ xs.length ∧ ∃ ρc A', sat (WW X.K X.mg W F R) P (forGo γ b (xs.drop i) ρc) ∧ Rel X.K X.mg F R A' ρc σc Hc ∧ Stp A1 H1 A' Hc ∧ Kp (ts ++ us) σ σc, ⟨xs.length, rfl, Nat.zero_le _, ρ1, A1, s1, rel1, .refl A1 H1, .refl⟩, ?_⟩
  rintro i m σc Hc ⟨rfl, hi, ρc, A', s2, rel2, p2, kk⟩
  obtain ⟨wstop, wgo⟩ := wk R A' Hc (fun _ z => .inl z) (fun a z => ⟨rel2.dom a z, rel2.nt a z⟩) p2 i
  by_cases hlt : i < xs.length
  · right
    obtain ⟨jgo, jy⟩ := wgo xs[i] (by simp [hlt])
    refine ⟨jgo, fun σn Hn => ∃ ρc A', sat (WW X.K X.mg W F R) P (forGo γ b (xs.drop (i + 1)) ρc) ∧ Rel X.K X.mg F R A' ρc σn Hn ∧ Stp A1 H1 A' Hn ∧ Kp (ts ++ us) σ σn, fun σn Hn q => ⟨xs.length - (i + 1), by omega, rfl, hlt, q⟩, fun x H2 y => ?_⟩
    obtain ⟨x2, rx⟩ := jy x H2 y
    rw [List.drop_eq_getElem_cons hlt] at s2
    refine ⟨F, R, A', _, _, rel2.grow x2, rx, sat_mono (sat_bind s2) fun _ ρ3 s3 A3 σ3 H3 p3 rel3 w3 => ?_⟩
    refine ⟨F, R, A3, ρ3, rel3, sat_mono (sat_bind s3) fun fl ρ4 s4 A4 σ4 H4 p4 rel4 w4 => ?_⟩
    have k4 : Kp (ts ++ us) σ σ4 := (kk.trans (w3.trans w4)).mono fun t h => (List.mem_append.mp h).elim id id
    have q4 : Stp A1 H1 A4 H4 := ((p2.trans x2.stp).trans p3).trans p4
    cases fl with
    | nx => exact ⟨ρ4, A4, s4, rel4, q4, k4⟩
    | ct => exact ⟨ρ4, A4, s4, rel4, q4, k4⟩
    | brk =>
      have s5 : P .nx ρ4 := s4
      rw [← hP] at s5
      exact s5 A4 σ4 H4 (p1.trans q4) rel4 k4
    | ret d =>
      have s5 : P (.ret d) ρ4 := s4
      rw [← hP] at s5
      exact s5 A4 σ4 H4 (p1.trans q4) rel4 k4
    | rtn d =>
      have s5 : P (.rtn d) ρ4 := s4
      rw [← hP] at s5
      exact s5 A4 σ4 H4 (p1.trans q4) rel4 k4
  · left
    have e : i = xs.length := by omega
    subst e
    refine ⟨wstop (Nat.le_refl _), ?_⟩
    rw [List.drop_length] at s2
    have s3 : P .nx ρc := s2
    rw [← hP] at s3
    exact s3 A' σc Hc (p1.trans p2) rel2 kk
theorem s_while {n : Nat} (hp : PassesOwn (model X.prog X.w) X.A X.env X.xe) (ht : PT X e (tT X.K X.mg W t)) (hb : PSs X body (tS X.K X.mg W us b)) : PS X (.While e body [] pos) (tS X.K X.mg W us (sWhile n t b)) := PS.imp (ps_while hp ht hb) fun D σ H ⟨F, R, A, ρ, rel, s⟩ => by
  generalize hP : (fun (fl : Fl) (ρ' : En) => ∀ A' σ' H', Stp A H A' H' → Rel X.K X.mg F R A' ρ' σ' H' → Kp us σ σ' → EndsAt F R D A' σ' H' fl) = P at *
  refine ⟨fun m σc Hc => ∃ ρc A', sat (WW X.K X.mg W F R) P (whileGo t b m ρc) ∧ Rel X.K X.mg F R A' ρc σc Hc ∧ Stp A H A' Hc ∧ Kp us σ σc, ⟨n, ρ, A, s, rel, .refl A H, .refl⟩, ?_⟩
  rintro m σc Hc ⟨ρc, A', s2, rel2, p2, kk⟩
  cases m with
  | zero => exact s2.elim
  | succ m =>
    refine ⟨F, R, A', ρc, rel2, sat_mono (sat_bind s2) fun c ρ3 s3 A3 H3 p3 rel3 => ?_⟩
    cases c with
    | true =>
      refine ⟨fun σn Hn => ∃ ρc A', sat (WW X.K X.mg W F R) P (whileGo t b m ρc) ∧ Rel X.K X.mg F R A' ρc σn Hn ∧ Stp A H A' Hn ∧ Kp us σ σn, fun σn Hn q => ⟨m, Nat.lt_succ_self m, q⟩, ?_⟩
      have s3' : sat (WW X.K X.mg W F R) P ((b ρ3).bind fun f ρ => match f with
        | .nx => whileGo t b m ρ
        | .ct => whileGo t b m ρ
        | .brk => .ok .nx ρ
        | .ret d => .ok (.ret d) ρ
        | .rtn d => .ok (.rtn d) ρ) := s3
      refine ⟨F, R, A3, ρ3, rel3, sat_mono (sat_bind s3') fun fl ρ4 s4 A4 σ4 H4 p4 rel4 w4 => ?_⟩
      have k4 : Kp us σ σ4 := (kk.trans w4).mono fun t h => (List.mem_append.mp h).elim id id
      have q4 : Stp A H A4 H4 := (p2.trans p3).trans p4
      cases fl with
      | nx => exact ⟨ρ4, A4, s4, rel4, q4, k4⟩
      | ct => exact ⟨ρ4, A4, s4, rel4, q4, k4⟩
      | brk =>
        have s5 : P .nx ρ4 := s4
        rw [← hP] at s5
        exact s5 A4 σ4 H4 q4 rel4 k4
      | ret d =>
        have s5 : P (.ret d) ρ4 := s4
        rw [← hP] at s5
        exact s5 A4 σ4 H4 q4 rel4 k4
      | rtn d =>
        have s5 : P (.rtn d) ρ4 := s4
        rw [← hP] at s5
        exact s5 A4 σ4 H4 q4 rel4 k4
    | false =>
      have s5 : P .nx ρ3 := s3
      rw [← hP] at s5
      exact s5 A3 σc H3 (p2.trans p3) rel3 kk

/-! ### own lists -/
/-- the write to an own list -/
theorem Rel.wr {K : PySem.W.Frag} {mg : Str → Option Value} {F : Fm} {R : Addr → Prop} {A : Nat → List Addr} {ρ : En} {σ : St} {H : Hp} {xs ys : List PyData} {a : Addr} {ws : List V} (rel : Rel K mg F R A ρ σ H) (e : ρ[i]? = some (some (.own xs))) (ea : A i = [a]) (es : σ[i]? = some (some (.ref a))) (r : RpAll (Bd R A) H ws ys) :
    Rel K mg F R A (ρ.set i (some (.own ys))) σ (upd H a (.lst ws)) ∧ Stp A H A (upd H a (.lst ws)) := by
  have ha : a ∈ A i := by rw [ea]; simp
  refine ⟨rel.write ha (fun _ z => nomatch z) (fun w hw => ?_) ⟨_, e⟩, ⟨Ext.write ha, fun j b z => .inl ⟨j, z⟩⟩⟩
  rw [es] at hw
  cases hw
  refine ⟨a, ws, ea, rfl, upd_same, r.imp (fun _ z => z) fun b o eb n => ?_⟩
  rw [upd_ne (fun (z : b = a) => n (.inr ⟨i, by rw [z]; exact ha⟩))]
  exact eb
theorem tyV_own {K : PySem.W.Frag} {H : Hp} {a : Addr} {vs : List V} (h : H a = some (.lst vs)) : tyV K "list" (.ref a) H := .inl ⟨rfl, vs, SqL.of h⟩
section
variable (hv : PE X e (tVar i)) (h1 : PE X e1 (tE X.K X.mg W f))
    (hfew : ((backTo pos (starEach [e1] X.env)).all (fun x => !x.1) && (backToKw pos (keywordEach [] X.env)).all (fun x => x.1.isSome)
      && decide ([e1].length + ([] : List Keyword).length + (if ([] : List Keyword).isEmpty then 0 else 1) < 30)) = true)
    (hline : (apos.endLine == pos.line) = true) (hs : starEach [e1] X.env = (false, eval e1 X.env) :: starEach [] X.env) (hpl : (backTo pos (starEach [] X.env)).any (·.1) = false)
include hv h1 hfew hline hs hpl
theorem s_app (hbase : attributeBase e "append" X.env (eval e X.env) = eval e X.env) (hsw : swapsWith (.Call (.Attribute e "append" apos) [e1] [] pos) none p2.line X.env = pure false) :
    PS X (.Expr (.Call (.Attribute e "append" apos) [e1] [] pos) p2) (tS X.K X.mg W [] (sApp i f)) :=
  PS.imp (ps_expr (pe_bm PySem.F.plainAttrs_list PySem.F.slot_list_append PySem.F.type_list_append mt_append hv (pa_cons h1 pa_nil hs) hbase hfew hline hs hpl) hsw) fun D σ H ⟨F, R, A, ρ, rel, s⟩ => by
    obtain ⟨xs0, e0, s0⟩ := at_own (sat_bind s)
    obtain ⟨a0, vs0, es0, ea0, eh0, r0⟩ := rel.own e0
    refine ⟨_, es0, tyV_own eh0, F, R, A, ρ, rel, sat_mono (sat_bind s0) fun d ρ1 s1 A1 y H1 p1 rel1 r1 => ?_⟩
    obtain ⟨xs, e1, s2⟩ := at_own (sat_bind s1)
    obtain ⟨a, vs, es, ea, eh, r⟩ := rel1.own e1
    rw [es0] at es
    cases es
    by_cases hz : xs.length < maxSeq
    · rw [if_pos hz] at s2
      obtain ⟨q1, q2⟩ := rel1.wr e1 ea es0 (r.append (.cons r1 .nil))
      exact ⟨a0, vs, y, rfl, rfl, eh, by rw [r.length]; exact hz, s2 A1 σ _ (p1.trans q2) q1 .refl⟩
    · rw [if_neg hz] at s2
      exact s2.elim
theorem s_ext (hbase : attributeBase e "extend" X.env (eval e X.env) = eval e X.env) (hsw : swapsWith (.Call (.Attribute e "extend" apos) [e1] [] pos) none p2.line X.env = pure false) :
    PS X (.Expr (.Call (.Attribute e "extend" apos) [e1] [] pos) p2) (tS X.K X.mg W [] (sExt i f)) :=
  PS.imp (ps_expr (pe_bm PySem.F.plainAttrs_list PySem.F.slot_list_extend PySem.F.type_list_extend mt_extend hv (pa_cons h1 pa_nil hs) hbase hfew hline hs hpl) hsw) fun D σ H ⟨F, R, A, ρ, rel, s⟩ => by
    obtain ⟨xs0, e0, s0⟩ := at_own (sat_bind s)
    obtain ⟨a0, vs0, es0, ea0, eh0, r0⟩ := rel.own e0
    refine ⟨_, es0, tyV_own eh0, F, R, A, ρ, rel, sat_mono (sat_bind s0) fun d ρ1 s1 A1 y H1 p1 rel1 r1 => ?_⟩
    obtain ⟨xs, e1, s2⟩ := at_own (sat_bind s1)
    obtain ⟨a, vs, es, ea, eh, r⟩ := rel1.own e1
    rw [es0] at es
    cases es
    cases r1 with
    | @lst b ws ys hb hn rb =>
      have s2' : sat (WW X.K X.mg W F R) _ (if xs.length + ys.length ≤ maxSeq then Out.ok Fl.nx (ρ1.set i (some (.own (xs ++ ys)))) else .stuck) := s2
      by_cases hz : xs.length + ys.length ≤ maxSeq
      · rw [if_pos hz] at s2'
        obtain ⟨q1, q2⟩ := rel1.wr e1 ea es0 (r.append rb)
        exact ⟨a0, b, vs, ws, rfl, rfl, eh, hb, by rw [r.length, rb.length]; exact hz, s2' A1 σ _ (p1.trans q2) q1 .refl⟩
      · rw [if_neg hz] at s2'
        exact s2'.elim
    | _ => exact s2.elim
theorem ixAt_seq {n : Nat} {z : Int} {j : Nat} (h : ixAt n z = some j) : seqIndex? z n = some j := (ixN_seq (show ixN n z = some j from h)).1
theorem d_popAt (hbase : attributeBase e "pop" X.env (eval e X.env) = eval e X.env) : PE X (.Call (.Attribute e "pop" apos) [e1] [] pos) (tE X.K X.mg W (cPopAt i f)) :=
  PE.imp (pe_bm PySem.F.plainAttrs_list PySem.F.slot_list_pop PySem.F.type_list_pop mt_popAt hv (pa_cons h1 pa_nil hs) hbase hfew hline hs hpl) fun σ H Q ⟨F, R, A, ρ, rel, s⟩ => by
    obtain ⟨xs0, e0, s0⟩ := at_own (sat_bind s)
    obtain ⟨a0, vs0, es0, ea0, eh0, r0⟩ := rel.own e0
    refine ⟨_, es0, tyV_own eh0, F, R, A, ρ, rel, sat_mono (sat_bind s0) fun d ρ1 s1 A1 y H1 p1 rel1 r1 => ?_⟩
    obtain ⟨xs, e1, s2⟩ := at_own (sat_bind s1)
    obtain ⟨a, vs, es, ea, eh, r⟩ := rel1.own e1
    rw [es0] at es
    cases es
    cases r1 with
    | int z =>
      have s2' : sat (WW X.K X.mg W F R) _ (if big63 z = true then (match ixAt xs.length z with
        | some j => (match xs[j]? with | some d => Out.ok d (ρ1.set i (some (.own (xs.eraseIdx j)))) | none => .stuck)
        | none => .stuck) else .stuck) := s2
      by_cases hb : big63 z = true
      · rw [if_pos hb] at s2'
        split at s2'
        · rename_i j hj
          split at s2'
          · rename_i d hd
            obtain ⟨w, hw, rw'⟩ := r.get hd
            obtain ⟨q1, q2⟩ := rel1.wr e1 ea es0 (r.eraseIdx j)
            unfold big63 at hb
            simp only [Bool.and_eq_true, decide_eq_true_eq] at hb
            refine ⟨a0, vs, z, j, w, rfl, rfl, eh, hb.1, hb.2, by rw [r.length]; exact (ixN_seq (show ixN xs.length z = some j from hj)).1, hw, s2' A1 _ _ (p1.trans q2) q1 (rw'.stp q2)⟩
          · exact s2'.elim
        · exact s2'.elim
      · rw [if_neg hb] at s2'
        exact s2'.elim
    | _ => exact s2.elim
end
/-- own[f] = .., as a target -/
theorem g_put (hv : PE X e (tVar i)) (h1 : PE X e1 (tE X.K X.mg W f)) (ha : ∀ v, assign (.Subscript e e1 pos) X.env v = (do
      let ov ← holding [v] (eval e X.env)
      let iv ← holding [v, ov] (eval e1 X.env)
      standAt pos
      holding [v, ov, iv] (setItem ov iv v)
      release [v, ov, iv] []) := by intro _; rfl) : PG X (.Subscript e e1 pos) (tG X.K X.mg W [] (gPut i f)) :=
  PG.imp (pg_sub hv h1 set_list ha) fun v σ H Q ⟨F, R, A, ρ, d, rel, rd, s⟩ => by
    obtain ⟨xs0, e0, s0⟩ := at_own (sat_bind s)
    obtain ⟨a0, vs0, es0, ea0, eh0, r0⟩ := rel.own e0
    refine ⟨_, es0, F, R, A, ρ, rel, sat_mono (sat_bind s0) fun kd ρ1 s1 A1 y H1 p1 rel1 r1 => ?_⟩
    obtain ⟨xs, e1, s2⟩ := at_own (sat_bind s1)
    obtain ⟨a, vs, es, ea, eh, r⟩ := rel1.own e1
    rw [es0] at es
    cases es
    cases r1 with
    | int z =>
      have s2' : sat (WW X.K X.mg W F R) _ (match ixAt xs.length z with | some j => Out.ok () (ρ1.set i (some (.own (xs.set j d)))) | none => .stuck) := s2
      split at s2'
      · rename_i j hj
        obtain ⟨q1, q2⟩ := rel1.wr e1 ea es0 (r.set (rd.stp p1) j)
        exact ⟨a0, vs, z, j, rfl, rfl, eh, by rw [r.length]; exact hj, s2' A1 σ _ (p1.trans q2) q1 .refl⟩
      · exact s2'.elim
    | _ => exact s2.elim
end
end Mo
end
section
set_option autoImplicit false
set_option linter.all false
set_option Elab.async false
set_option maxHeartbeats 1000000
/-! MC: defs and calls. A def is known to run where no repr is under way. -/
namespace Mo
open PySem PySem.Spec PyProof.Rows L2

/-- a call's end, from one that this layer knows: no exception leaves -/
structure FnM (P : Program) (w : World) (K : PySem.W.Frag) (mg : Str → Option Value) (base : Heap) (k : Nat) (f : Addr) (fd : FuncData) (ps : List Str) (sp : Sp) : Prop where
  len : ∀ vs H Q E, sp vs H Q E → vs.length = ps.length
  run : ∀ (A : Around) (outer : List Env) (s : Shared) (H : Hp) (args : Args) (us : List Value) (vs : List V) (Q : VK) (E : XK), Room k A → A.guards = some [] → Env0 P w K mg base A outer s H → BindsTo s fd args (ps.zip us) → Vals vs us → sp vs H Q E →
    codeAny (model P w) A (.call (.ref f) args) (CR CX0 outer P w H s Q E) s
theorem FnM.mono {P : Program} {w : World} {K : PySem.W.Frag} {mg : Str → Option Value} {base : Heap} {j k : Nat} {f : Addr} {fd : FuncData} {ps : List Str} {sp : Sp} (F : FnM P w K mg base j f fd ps sp) (h : j ≤ k) : FnM P w K mg base k f fd ps sp :=
  ⟨F.len, fun A outer s H args us vs Q E hr => F.run A outer s H args us vs Q E (hr.mono h)⟩
/-- the rule for a def -/
theorem fnM_of {P : Program} {w : World} {K : PySem.W.Frag} {mg : Str → Option Value} {base : Heap} {k : Nat} {f : Addr} {name qual : Str} {params : Arguments} {body : List Stmt} {scope : Scope} {dvs : List V} {kws : List (Str × V)} {fd : FuncData} {N ps : List Str} {sp : Sp}
    (FD : FunD K name qual params body scope dvs kws f fd) (S : FnScope N ps scope) (len : ∀ vs H Q E, sp vs H Q E → vs.length = ps.length)
    (hbody : ∀ (cdv : Value) (A : Around) (outer : List Env) (s : Shared) (H : Hp) (vs : List V) (Q : VK) (E : XK), Room k (A.deeper (envOfC qual scope s.heap.objs.size f cdv)) → (A.deeper (envOfC qual scope s.heap.objs.size f cdv)).guards = some [] → sp vs H Q E →
      ∃ t, PSs (cxOf CX0 P w K mg base N qual scope f cdv A outer s H E) body t ∧ t { nx := fun _ H' => Q .non H', rt := Q } (L2.start N vs) H) :
    FnM P w K mg base (k + 1) f fd ps sp := by
  obtain ⟨oc, od, dV, kV, doc, pm, an, cdv, ct, osl, rfl, lk, hcd, _, _⟩ := FD.ex
  refine ⟨len, fun A outer s H args us vs Q E hr hgd e0 hb r hsp => ?_⟩
  have hl := len _ _ _ _ hsp
  have kin : K.In s.heap := e0.mod.kin.keeps fun b o e => (e0.bs b o e).1
  have hkind : ∀ y ∈ ps.zip us, scope.names.lookup y.1 = some .local ∨ (scope.names.lookup y.1 = some .cell ∧ ((cellsFrom (s.heap.objs.size + 1) scope.names []).lookup y.1).isSome = true) := fun ⟨n, v⟩ hy =>
    (S.par n (List.of_mem_zip hy).1).imp_right fun q => ⟨q, PySem.W.cellsFrom_some _ _ _ (.inl q)⟩
  refine codeAny_call_function hr.depth (kin _ _ lk) rfl S.co S.gen rfl (PySem.W.codeRec_of kin hcd) (hb _ _ _ _ ?_)
  refine wpAny_newFunctionEnv_cells S.kind hkind fun env he s1 x => ?_
  subst he
  refine ⟨(e0.mod.nolimit.keeps fun b o e => (e0.bs b o e).1).keeps x.toInCall.keep, codeAny_func ?_⟩
  obtain ⟨t, ht, hq⟩ := hbody cdv A outer s H vs Q E (hr.deeper _) hgd hsp
  refine wpAny_mono (ht.run [] s1 (L2.start N vs) H _ (inv_start S hr.hd e0 hl r x) hq) (fun fl s' hs => ?_) fun e s' hs => hs
  have fin : ∀ {σ' : L2.St} {H' : Hp} {v : V} {u : Value}, Inv (cxOf CX0 P w K mg base N qual scope f cdv A outer s H E) [] σ' H' s' → RelV v u → Q v H' → CE outer P w H s Q u s' :=
    fun {σ' H' v u} J rv q => ⟨v, H', J.os, J.bare, J.base, J.hok, rv, q⟩
  cases fl with
  | ret u =>
    obtain ⟨v, σ', H', J, rv, q⟩ := hs
    exact fin J rv q
  | next =>
    obtain ⟨σ', H', J, q⟩ := hs
    exact fin (v := V.non) (u := Value.none) J rfl q
  | brk => exact hs.elim fun _ z => z.elim fun _ z => z.2.elim
  | cont => exact hs.elim fun _ z => z.elim fun _ z => z.2.elim
/-- a def that a name of the module finds -/
structure CalM (P : Program) (w : World) (K : PySem.W.Frag) (mg : Str → Option Value) (base : Heap) (k : Nat) (x : Str) (sp : Sp) : Prop where
  ex : ∃ f fd ps, FnM P w K mg base k f fd ps sp ∧ mg x = some (.ref f) ∧ PySem.W.keepIn K (.ref f) = true ∧ Binds K fd ps []
theorem CalM.mono {P : Program} {w : World} {K : PySem.W.Frag} {mg : Str → Option Value} {base : Heap} {j k : Nat} {x : Str} {sp : Sp} (c : CalM P w K mg base j x sp) (h : j ≤ k) : CalM P w K mg base k x sp :=
  let ⟨f, fd, ps, F, a, b, d⟩ := c.ex
  ⟨f, fd, ps, F.mono h, a, b, d⟩
theorem CalM.imp {P : Program} {w : World} {K : PySem.W.Frag} {mg : Str → Option Value} {base : Heap} {k : Nat} {x : Str} {sp sp' : Sp} (c : CalM P w K mg base k x sp) (h : ∀ vs H Q E, sp' vs H Q E → sp vs H Q E) : CalM P w K mg base k x sp' :=
  let ⟨f, fd, ps, F, a, b, d⟩ := c.ex
  ⟨f, fd, ps, ⟨fun vs H Q E z => F.len vs H Q E (h _ _ _ _ z), fun A outer s H args us vs Q E h1 h2 h3 h4 h5 h6 => F.run A outer s H args us vs Q E h1 h2 h3 h4 h5 (h _ _ _ _ h6)⟩, a, b, d⟩
section
variable {X : Cx} {k j i : Nat} {x : Str} {sp : Sp} {p pos : Pos} {e : Expr} {es : List Expr} {t : TA}
/-- the callee runs -/
theorem run_fnM {f : Addr} {fd : FuncData} {ps : List Str} {pins : List (Addr × Obj)} {σ : L2.St} {H : Hp} {s : Shared} {Q : VK} {us : List Value} {vs : List V} (F : FnM X.prog X.w X.K X.mg X.base k f fd ps sp) (hr : Room k X.A) (hgd : X.A.guards = some []) (hb : Binds X.K fd ps [])
    (I : Inv X pins σ H s) (r : Vals vs us) (h : sp vs H Q E0) : wpAny (model X.prog X.w) X.A (call (.ref f) us) (EP X pins σ Q) X.xe s := by
  have hl : (us ++ []).length = ps.length := by rw [List.append_nil, ← r.length]; exact F.len _ _ _ _ h
  have hbs := hb s us I.kIn hl
  rw [List.append_nil] at hbs
  refine wpAny_call (codeAny_mono (F.run X.A X.stack s H ⟨us, []⟩ us vs Q E0 hr hgd I.env0 hbs r h) fun r s' hq => ?_)
  cases r with
  | error e => exact hq.elim
  | ok fl =>
    cases fl with
    | ret u => exact I.after hq
    | next => exact False.elim hq
    | brk => exact False.elim hq
    | cont => exact False.elim hq
def tCallM (sp : Sp) (t : TA) : TE := fun σ H Q => t σ H fun vs H1 => sp vs H1 Q E0
theorem pe_callM (c : CalM X.prog X.w X.K X.mg X.base k x sp) (hr : Room k X.A) (hgd : X.A.guards = some []) (hg : Gl X x) (ha : PA X (e :: es) t) (hdb : (x == ("__debug__" : Str)) = false := by decide)
    (he : starEach (e :: es) X.env = (false, eval e X.env) :: starEach es X.env := by rfl) (hpl : (backTo pos (starEach es X.env)).any (·.1) = false := by rfl) : PE X (.Call (.Name x p) (e :: es) [] pos) (tCallM sp t) := by
  obtain ⟨f, fd, ps, F, hm, hk, hb⟩ := c.ex
  refine ⟨fun pins s σ H Q I h => ?_⟩
  refine wpAny_Call_Name_kw (ld_glob I hg hm ?_ hdb)
  exact PySem.W.callWith_K (h₀ := X.base) I.ok.mod.kin hk (thn (ha.run pos pins s σ H _ I h) fun us s1 ⟨vs, H1, I1, r, q⟩ => ⟨I1.kIn, run_fnM F hr hgd hb I1 r q⟩) he hpl
/-- of a def that a slot holds; S: the promise that goes with a name -/
def tCallMV (mg : Str → Option Value) (i : Nat) (S : Str → Option Sp) (t : TA) : TE := fun σ H Q => ∃ f y sp, σ[i]? = some (some (.ref f)) ∧ mg y = some (.ref f) ∧ S y = some sp ∧ t σ H fun vs H1 => sp vs H1 Q E0
theorem pe_callMV {S : Str → Option Sp} (c : ∀ y sp, S y = some sp → CalM X.prog X.w X.K X.mg X.base k y sp) (hr : Room k X.A) (hgd : X.A.guards = some []) (hN : X.N[i]? = some x) (hv : Vis X.env.scope x) (ha : PA X (e :: es) t)
    (hdb : (x == ("__debug__" : Str)) = false := by decide) (hcd : (x == ("__classdict__" : Str)) = false := by decide) (he : starEach (e :: es) X.env = (false, eval e X.env) :: starEach es X.env := by rfl) (hpl : (backTo pos (starEach es X.env)).any (·.1) = false := by rfl) : PE X (.Call (.Name x p) (e :: es) [] pos) (tCallMV X.mg i S t) := by
  refine ⟨fun pins s σ H Q I ⟨f, y, sp, hs, hm, hS, ht⟩ => ?_⟩
  obtain ⟨f', fd, ps, F, hm', hk, hb⟩ := (c y sp hS).ex
  rw [hm] at hm'
  cases hm'
  refine wpAny_Call_Name_kw (thn ((pe_var (pos := p) hN hv hdb hcd).run pins s σ H (fun v H1 => v = .ref f ∧ H1 = H) I ⟨.ref f, hs, rfl, rfl⟩) fun u s1 ⟨v, H1, I1, r1, q1⟩ => ?_)
  obtain ⟨rfl, rfl⟩ := q1
  cases r1
  exact PySem.W.callWith_K (h₀ := X.base) I.ok.mod.kin hk (thn (ha.run pos pins s1 σ _ _ I1 ht) fun us s2 ⟨vs, H2, I2, r, q⟩ => ⟨I2.kIn, run_fnM F hr hgd hb I2 r q⟩) he hpl
end

/-! ### the promises by plain functions -/
section
variable (K : PySem.W.Frag) (mg : Str → Option Value)
/-- a def that changes nothing that was there -/
def spM (n : Nat) (f : Fs) : Sp := fun vs H Q _ => vs.length = n ∧ ∃ (B : Addr → Prop) (svs : List SV), (∀ a, B a → H a ≠ none ∧ ∀ us, H a ≠ some (.tup us)) ∧ ArgsR K mg B H vs svs ∧ ∃ d io, f svs = .ret d io ∧ ∀ v H', Ex0 H H' → Rp B H' v d → Q v H'
/-- a def that gives a new list -/
def spN (n : Nat) (f : Fs) : Sp := fun vs H Q _ => vs.length = n ∧ ∃ (B : Addr → Prop) (svs : List SV), (∀ a, B a → H a ≠ none ∧ ∀ us, H a ≠ some (.tup us)) ∧ ArgsR K mg B H vs svs ∧ ∃ xs io, f svs = .ret (.list xs) io ∧ ∀ p us H', Ex0 H H' → H p = none → H' p = some (.lst us) → RpAll (fun a => B a ∨ a = p) H' us xs → Q (.ref p) H'
/-- a def that changes the list that comes first -/
def spP (n : Nat) (f : Fs) : Sp := fun vs H Q _ => vs.length = n ∧ ∃ (B : Addr → Prop) (a : Addr) (ws vs' : List V) (xs : List PyData) (svs : List SV), vs = .ref a :: vs' ∧ (∀ a, B a → H a ≠ none ∧ ∀ us, H a ≠ some (.tup us)) ∧ B a ∧ H a = some (.lst ws) ∧ RpAll B H ws xs ∧ ArgsR K mg B H vs' svs ∧
  ∃ d ys, f (.own xs :: svs) = .ret d ys ∧ ∀ v H' zs, (∀ b o, H b = some o → b ≠ a → H' b = some o) → H' a = some (.lst zs) → RpAll B H' zs ys → Rp B H' v d → Q v H'
end
theorem argsR_len {K : PySem.W.Frag} {mg : Str → Option Value} {B : Addr → Prop} {H : Hp} : ∀ {vs : List V} {svs : List SV}, ArgsR K mg B H vs svs → vs.length = svs.length
  | _, _, .nil => rfl
  | _, _, .cons _ r => congrArg Nat.succ (argsR_len r)
theorem argsR_get {K : PySem.W.Frag} {mg : Str → Option Value} {B : Addr → Prop} {H : Hp} : ∀ {vs : List V} {svs : List SV} {i : Nat} {sv : SV}, ArgsR K mg B H vs svs → svs[i]? = some sv → ∃ v, vs[i]? = some v ∧ ArgR K mg B H v sv
  | _, _, i, sv, .nil, h => by simp at h
  | _, _, 0, sv, .cons r _, h => by simp at h; subst h; exact ⟨_, rfl, r⟩
  | _, _, i + 1, sv, .cons _ r, h => by
    obtain ⟨v, e, q⟩ := argsR_get (i := i) r (by simpa using h)
    exact ⟨v, by simpa using e, q⟩
theorem ArgR.reps {K : PySem.W.Frag} {mg : Str → Option Value} {B B' : Addr → Prop} {H : Hp} {v : V} {sv : SV} {l : List Addr} (hB : ∀ a, B' a → B a) (h : ArgR K mg B H v sv) : RepS K mg B' H l v sv := by
  cases sv with
  | dat d => exact Rp.imp hB (fun _ _ e _ => e) h
  | fnv x => exact h
  | scr ns =>
    obtain ⟨a, e, q | ⟨q, n⟩⟩ := h
    · exact ⟨a, e, .inl q⟩
    · exact ⟨a, e, .inr ⟨q, fun z => n (hB a z)⟩⟩
  | own _ => exact h.elim
  | dI _ => exact h.elim
  | dP kvs =>
    obtain ⟨a, o, ws, e, hH, n, r⟩ := h
    exact ⟨a, o, ws, e, hH, fun z => n (hB a z), Paired.mapP r fun _ _ z => ⟨z.1, z.2.imp hB fun _ _ e _ => e⟩⟩
  | dL _ => exact h.elim
theorem start_get {N : List Str} {vs : List V} {i : Nat} {v : V} (h : vs[i]? = some v) : (L2.start N vs)[i]? = some (some v) := by
  unfold L2.start
  rw [List.getElem?_append_left (by rw [List.length_map]; exact (List.getElem?_eq_some_iff.mp h).1), List.getElem?_map, h]
  rfl
theorem slots_get {svs : List SV} {m i : Nat} {sv : SV} (h : (svs.map some ++ List.replicate m (none : Option SV))[i]? = some (some sv)) : svs[i]? = some sv := by
  by_cases hi : i < svs.length
  · rw [List.getElem?_append_left (by rw [List.length_map]; exact hi), List.getElem?_map] at h
    cases e : svs[i]? with
    | none => rw [e] at h; cases h
    | some x => rw [e] at h; cases h; rfl
  · rw [List.getElem?_append_right (by rw [List.length_map]; omega)] at h
    rw [List.getElem?_replicate] at h
    split at h <;> cases h
theorem start_len {N : List Str} {vs : List V} (h : vs.length ≤ N.length) : (L2.start N vs).length = N.length := by
  unfold L2.start
  rw [List.length_append, List.length_map, List.length_replicate]
  omega
theorem rel_start {K : PySem.W.Frag} {mg : Str → Option Value} {B : Addr → Prop} {H : Hp} {vs : List V} {svs : List SV} {N : List Str} (r : ArgsR K mg B H vs svs) (hB : ∀ a, B a → H a ≠ none ∧ ∀ us, H a ≠ some (.tup us)) : Rel K mg ⟨H, fun _ => False⟩ B (fun _ => []) (svs.map some ++ List.replicate (N.length - vs.length) none) (L2.start N vs) H where
  len := by unfold L2.start; simp [argsR_len r]
  sl := fun i sv e => by
    obtain ⟨v, e1, q⟩ := argsR_get r (slots_get e)
    exact ⟨v, start_get e1, q.reps fun a z => z.elim id fun ⟨_, z⟩ => nomatch z⟩
  inj := fun _ _ _ z => nomatch z
  nd := fun _ => List.nodup_nil
  sep := fun _ _ z => nomatch z
  dom := fun a z => z.elim (fun z => (hB a z).1) fun ⟨_, z⟩ => nomatch z
  nt := fun a z => z.elim (fun z => (hB a z).2) fun ⟨_, z⟩ => nomatch z
  fr := fun _ _ e _ => e
  frd := fun _ e => e
  own0 := fun _ _ z => nomatch z
theorem rel_startP {K : PySem.W.Frag} {mg : Str → Option Value} {B : Addr → Prop} {H : Hp} {vs ws : List V} {svs : List SV} {xs : List PyData} {a : Addr} {N : List Str} (r : ArgsR K mg B H vs svs) (hB : ∀ a, B a → H a ≠ none ∧ ∀ us, H a ≠ some (.tup us)) (ha : B a) (hl : H a = some (.lst ws)) (rx : RpAll B H ws xs) :
    Rel K mg ⟨H, fun b => b = a⟩ (fun b => B b ∧ b ≠ a) (fun i => if i = 0 then [a] else []) ((.own xs :: svs).map some ++ List.replicate (N.length - (.ref a :: vs).length) none) (L2.start N (.ref a :: vs)) H := by
  have hbd : ∀ b, Bd (fun b => B b ∧ b ≠ a) (fun i => if i = 0 then [a] else []) b → B b := fun b z => by
    rcases z with z | ⟨i, z⟩
    · exact z.1
    · have z : b ∈ (if i = 0 then [a] else []) := z
      split at z
      · have : b = a := by simpa using z
        subst this; exact ha
      · cases z
  have ho : ∀ {i : Nat} {b : Addr}, b ∈ (if i = 0 then [a] else [] : List Addr) → i = 0 ∧ b = a := fun {i b} z => by
    split at z
    · rename_i h; exact ⟨h, by simpa using z⟩
    · cases z
  exact {
    len := by unfold L2.start; simp [argsR_len r]
    sl := fun i sv e => by
      have e0 := slots_get (svs := .own xs :: svs) e
      cases i with
      | zero =>
        simp at e0
        subst e0
        exact ⟨.ref a, start_get rfl, a, ws, rfl, rfl, hl, rx.imp hbd fun _ _ e _ => e⟩
      | succ i =>
        obtain ⟨v, e1, q⟩ := argsR_get (i := i) r (by simpa using e0)
        exact ⟨v, start_get (by simpa using e1), q.reps hbd⟩
    inj := fun i j b z w => (ho z).1.trans (ho w).1.symm
    nd := fun i => by
      show (if i = 0 then [a] else [] : List Addr).Nodup
      split
      · simp
      · exact List.nodup_nil
    sep := fun i b z w => w.2 (ho z).2
    dom := fun b z => (hB b (hbd b z)).1
    nt := fun b z => (hB b (hbd b z)).2
    fr := fun _ _ e _ => e
    frd := fun _ e => e
    own0 := fun i b z => .inr (ho z).2 }

/-! ### a def by its body -/
section
variable {P : Program} {w : World} {K : PySem.W.Frag} {mg : Str → Option Value} {base : Heap} {k n m : Nat} {f : Addr} {name qual : Str} {params : Arguments} {body : List Stmt} {scope : Scope} {dvs : List V} {kws : List (Str × V)} {fd : FuncData} {N ps : List Str} {W : WX} {ts : List Nat} {b : Ss}
/-- the body's reading, wherever it runs -/
abbrev BodyM (P : Program) (w : World) (K : PySem.W.Frag) (mg : Str → Option Value) (base : Heap) (k : Nat) (f : Addr) (qual : Str) (body : List Stmt) (scope : Scope) (N : List Str) (W : WX) (ts : List Nat) (b : Ss) : Prop :=
  ∀ (cdv : Value) (A : Around) (outer : List Env) (s : Shared) (H : Hp) (E : XK), Room k (A.deeper (envOfC qual scope s.heap.objs.size f cdv)) → (A.deeper (envOfC qual scope s.heap.objs.size f cdv)).guards = some [] →
    PSs (cxOf CX0 P w K mg base N qual scope f cdv A outer s H E) body (tS K mg W ts b)
abbrev Wno : WX := fun _ _ _ _ _ _ _ => False
theorem ok_def (FD : FunD K name qual params body scope dvs kws f fd) (S : FnScope N ps scope) (hn : ps.length = n) (hN : N.length - n = m) (hb : BodyM P w K mg base k f qual body scope N Wno ts b) : FnM P w K mg base (k + 1) f fd ps (spM K mg n (bodyOf b m false)) := by
  refine fnM_of FD S (fun vs H Q E h => h.1.trans hn.symm) fun cdv A outer s H vs Q E hr hgd ⟨hl, B, svs, hB, r, d, io, hf, q⟩ => ⟨_, hb cdv A outer s H E hr hgd, ?_⟩
  have rel : Rel K mg ⟨H, fun _ => False⟩ B (fun _ => []) (svs.map some ++ List.replicate m none) (L2.start N vs) H := by
    have := rel_start (N := N) r hB
    rw [hl, hN] at this
    exact this
  refine ⟨_, B, _, _, rel, ?_⟩
  have ex : ∀ {R' : Addr → Prop} {A' : Nat → List Addr} {ρ' : En} {σ' : L2.St} {H' : Hp}, Rel K mg ⟨H, fun _ => False⟩ R' A' ρ' σ' H' → Ex0 H H' := fun rl a o e => rl.fr a o e id
  have up : ∀ {A' : Nat → List Addr} {H' : Hp} {v : V} {d : PyData}, Rp (Bd B A') H' v d → Rp B H' v d := fun h => h.imp (fun a z => .inl z) fun _ _ e _ => e
  unfold bodyOf at hf
  generalize b (svs.map some ++ List.replicate m none) = o at hf ⊢
  cases o with
  | stuck => cases hf
  | exc x ρ => cases hf
  | ok fl ρ =>
    cases fl with
    | nx =>
      cases hf
      exact fun A' σ' H' p rl kp => q .non H' (ex rl) .non
    | ret d' =>
      cases hf
      exact fun A' σ' H' p rl kp v rv => q v H' (ex rl) (up rv)
    | brk => cases hf
    | ct => cases hf
    | rtn d => cases hf
theorem ok_defN (FD : FunD K name qual params body scope dvs kws f fd) (S : FnScope N ps scope) (hn : ps.length = n) (hN : N.length - n = m) (hb : BodyM P w K mg base k f qual body scope N Wno ts b) : FnM P w K mg base (k + 1) f fd ps (spN K mg n (bodyOfN b m)) := by
  refine fnM_of FD S (fun vs H Q E h => h.1.trans hn.symm) fun cdv A outer s H vs Q E hr hgd ⟨hl, B, svs, hB, r, xs, io, hf, q⟩ => ⟨_, hb cdv A outer s H E hr hgd, ?_⟩
  have rel : Rel K mg ⟨H, fun _ => False⟩ B (fun _ => []) (svs.map some ++ List.replicate m none) (L2.start N vs) H := by
    have := rel_start (N := N) r hB
    rw [hl, hN] at this
    exact this
  refine ⟨_, B, _, _, rel, ?_⟩
  have ex : ∀ {R' : Addr → Prop} {A' : Nat → List Addr} {ρ' : En} {σ' : L2.St} {H' : Hp}, Rel K mg ⟨H, fun _ => False⟩ R' A' ρ' σ' H' → Ex0 H H' := fun rl a o e => rl.fr a o e id
  unfold bodyOfN at hf
  generalize b (svs.map some ++ List.replicate m none) = o at hf ⊢
  cases o with
  | stuck => cases hf
  | exc x ρ => cases hf
  | ok fl ρ =>
    cases fl with
    | rtn ys =>
      cases hf
      intro A' σ' H' p rl kp v rv
      obtain ⟨p', vs', rfl, hn', h0, hl', rz⟩ := rv
      refine q p' vs' H' (ex rl) h0 hl' (rz.imp (fun a z => ?_) fun _ _ e _ => e)
      rcases z with z | z
      · exact .inl (.inl z)
      · exact .inl (.inr z)
    | _ => cases hf
theorem ok_defP (FD : FunD K name qual params body scope dvs kws f fd) (S : FnScope N ps scope) (hn : ps.length = n) (hN : N.length - n = m) (h0 : 0 ∉ ts) (hb : BodyM P w K mg base k f qual body scope N Wno ts b) : FnM P w K mg base (k + 1) f fd ps (spP K mg n (bodyOf b m true)) := by
  refine fnM_of FD S (fun vs H Q E h => h.1.trans hn.symm) fun cdv A outer s H vs Q E hr hgd ⟨hl, B, a, ws, vs', xs, svs, hv, hB, ha, hH, rx, r, d, ys, hf, q⟩ => ⟨_, hb cdv A outer s H E hr hgd, ?_⟩
  subst hv
  have rel : Rel K mg ⟨H, fun b => b = a⟩ (fun b => B b ∧ b ≠ a) (fun i => if i = 0 then [a] else []) ((.own xs :: svs).map some ++ List.replicate m none) (L2.start N (.ref a :: vs')) H := by
    have := rel_startP (N := N) r hB ha hH rx
    rw [hl, hN] at this
    exact this
  refine ⟨_, _, _, _, rel, ?_⟩
  have fin : ∀ {A' : Nat → List Addr} {ρ' : En} {σ' : L2.St} {H' : Hp} {v : V} {d : PyData} {ys : List PyData}, Rel K mg ⟨H, fun b => b = a⟩ (fun b => B b ∧ b ≠ a) A' ρ' σ' H' → Kp ts (L2.start N (.ref a :: vs')) σ' → ownAt ρ' 0 = some ys → Rp (Bd (fun b => B b ∧ b ≠ a) A') H' v d →
      (∀ b o, H b = some o → b ≠ a → H' b = some o) ∧ ∃ zs, H' a = some (.lst zs) ∧ RpAll B H' zs ys ∧ Rp B H' v d := fun {A' ρ' σ' H' v d ys} rl kp ho rv => by
    unfold ownAt at ho
    split at ho
    · rename_i zs e
      cases ho
      obtain ⟨a', us, e1, e2, e3, rz⟩ := rl.own e
      have e4 := kp.2 0 h0
      rw [e1, start_get (v := .ref a) rfl] at e4
      cases e4
      have up : ∀ b, B b → Bd (fun b => B b ∧ b ≠ a) A' b := fun b z => by
        by_cases hb : b = a
        · exact .inr ⟨0, by rw [e2, hb]; simp⟩
        · exact .inl ⟨z, hb⟩
      exact ⟨fun b o e n => rl.fr b o e n, us, e3, rz.imp up fun _ _ e _ => e, rv.imp up fun _ _ e _ => e⟩
    · cases ho
  unfold bodyOf at hf
  generalize b ((.own xs :: svs).map some ++ List.replicate m none) = o at hf ⊢
  have hfin : ∀ {d' : PyData} {ρ : En}, bodyFin true d' ρ = .ret d ys → d' = d ∧ ownAt ρ 0 = some ys := fun {d' ρ} h => by
    unfold bodyFin at h
    rw [if_pos rfl] at h
    split at h
    · rename_i zs e
      cases h
      exact ⟨rfl, e⟩
    · cases h
  cases o with
  | stuck => cases hf
  | exc x ρ =>
    have hf : bodyExc true x ρ = .ret d ys := hf
    unfold bodyExc at hf
    rw [if_pos rfl] at hf
    split at hf <;> cases hf
  | ok fl ρ =>
    cases fl with
    | nx =>
      obtain ⟨rfl, ho⟩ := hfin hf
      intro A' σ' H' p rl kp
      obtain ⟨x1, zs, x2, x3, x4⟩ := fin rl kp ho .non
      exact q .non H' zs x1 x2 x3 x4
    | ret d' =>
      obtain ⟨rfl, ho⟩ := hfin hf
      intro A' σ' H' p rl kp v rv
      obtain ⟨x1, zs, x2, x3, x4⟩ := fin rl kp ho rv
      exact q v H' zs x1 x2 x3 x4
    | brk => cases hf
    | ct => cases hf
    | rtn d => cases hf
end

/-! ### calls by plain functions -/
theorem stp_none_of {A A' : Nat → List Addr} {H H' : Hp} {q : Addr} (x : Stp A H A' H') (h : H' q = none) : H q = none := stp_none x h
section
variable {X : Cx} {W : WX} {k j i n : Nat} {x y : Str} {f : Fs} {p pos : Pos} {e e0 : Expr} {es : List Expr} {as : As}
/-- the arguments, then a def's promise -/
theorem sp_args {Q : VK} {F : Fm} {R : Addr → Prop} {A : Nat → List Addr} {ρ : En} {σ : L2.St} {H : Hp} (rel : Rel X.K X.mg F R A ρ σ H) (s : sat (WW X.K X.mg Wno F R) (fun d ρ' => ∀ A' v H', Stp A H A' H' → Rel X.K X.mg F R A' ρ' σ H' → Rp (Bd R A') H' v d → Q v H') (cCall n f as ρ)) :
    tAs X.K X.mg Wno as σ H fun vs H1 => spM X.K X.mg n f vs H1 Q E0 :=
  ⟨F, R, A, ρ, rel, sat_mono (sat_bind s) fun svs ρ1 s0 A1 vs H1 p1 rel1 r1 => by
    by_cases hl : svs.length = n
    · rw [if_pos hl] at s0
      cases hf : f svs with
      | stuck => rw [hf] at s0; exact s0.elim
      | exc x io =>
        rw [hf] at s0
        have s1 : WW X.K X.mg Wno F R x ρ1 := s0
        exact (s1 R A1 σ H1 (fun _ z => z) rel1).elim
      | ret d io =>
        rw [hf] at s0
        exact ⟨(argsR_len r1).trans hl, _, svs, fun a z => ⟨rel1.dom a z, rel1.nt a z⟩, r1, d, io, hf, fun v H2 x2 rv => s0 A1 v H2 (p1.trans x2.stp) (rel1.grow x2) rv⟩
    · rw [if_neg hl] at s0
      exact s0.elim⟩
theorem d_call (c : CalM X.prog X.w X.K X.mg X.base k x (spM X.K X.mg n f)) (hr : Room k X.A) (hgd : X.A.guards = some []) (hg : Gl X x) (ha : PA X (e :: es) (tAs X.K X.mg Wno as)) (hdb : (x == ("__debug__" : Str)) = false := by decide)
    (he : starEach (e :: es) X.env = (false, eval e X.env) :: starEach es X.env := by rfl) (hpl : (backTo pos (starEach es X.env)).any (·.1) = false := by rfl) : PE X (.Call (.Name x p) (e :: es) [] pos) (tE X.K X.mg Wno (cCall n f as)) :=
  PE.imp (pe_callM c hr hgd hg ha hdb he hpl) fun σ H Q ⟨F, R, A, ρ, rel, s⟩ => sp_args rel s
/-- a def that a parameter holds -/
theorem d_callV {T : Str → Option Fs} (c : ∀ y f, T y = some f → CalM X.prog X.w X.K X.mg X.base k y (spM X.K X.mg n f)) (hr : Room k X.A) (hgd : X.A.guards = some []) (hN : X.N[i]? = some x) (hv : Vis X.env.scope x) (ha : PA X (e :: es) (tAs X.K X.mg Wno as))
    (hdb : (x == ("__debug__" : Str)) = false := by decide) (hcd : (x == ("__classdict__" : Str)) = false := by decide) (he : starEach (e :: es) X.env = (false, eval e X.env) :: starEach es X.env := by rfl) (hpl : (backTo pos (starEach es X.env)).any (·.1) = false := by rfl) :
    PE X (.Call (.Name x p) (e :: es) [] pos) (tE X.K X.mg Wno (cCallV n i T as)) :=
  PE.imp (pe_callMV (S := fun y => (T y).map (spM X.K X.mg n)) (fun y sp h => by
    rw [Option.map_eq_some_iff] at h
    obtain ⟨f, h1, rfl⟩ := h
    exact c y f h1) hr hgd hN hv ha hdb hcd he hpl) fun σ H Q ⟨F, R, A, ρ, rel, s⟩ => by
    unfold cCallV at s
    split at s
    · rename_i y e1
      split at s
      · rename_i f hf
        obtain ⟨v, e2, fa, rfl, hm⟩ := rel.sl i _ e1
        exact ⟨fa, y, _, e2, hm, by show (T y).map _ = _; rw [hf]; rfl, sp_args rel s⟩
      · exact s.elim
    · exact s.elim
/-- a def that changes the own list in slot i -/
theorem d_callP (c : CalM X.prog X.w X.K X.mg X.base k x (spP X.K X.mg (n + 1) f)) (hr : Room k X.A) (hgd : X.A.guards = some []) (hg : Gl X x) (hv : PE X e (tVar i)) (ha : PA X es (tAs X.K X.mg Wno as)) (hdb : (x == ("__debug__" : Str)) = false := by decide)
    (he : starEach (e :: es) X.env = (false, eval e X.env) :: starEach es X.env := by rfl) (hpl : (backTo pos (starEach es X.env)).any (·.1) = false := by rfl) : PE X (.Call (.Name x p) (e :: es) [] pos) (tE X.K X.mg Wno (cCallP n f i as)) :=
  PE.imp (pe_callM c hr hgd hg (pa_cons hv ha he) hdb he hpl) fun σ H Q ⟨F, R, A, ρ, rel, s⟩ => by
    obtain ⟨xs0, e0, s0⟩ := at_own (sat_bind s)
    obtain ⟨a0, vs0, es0, ea0, eh0, r0⟩ := rel.own e0
    refine ⟨_, es0, F, R, A, ρ, rel, sat_mono (sat_bind s0) fun svs ρ1 s1 A1 vs H1 p1 rel1 r1 => ?_⟩
    obtain ⟨xs, e1, s2⟩ := at_own (sat_bind s1)
    obtain ⟨a, ws, es1, ea, eh, r⟩ := rel1.own e1
    rw [es0] at es1
    cases es1
    by_cases hl : svs.length = n
    · rw [if_pos hl] at s2
      cases hf : f (.own xs :: svs) with
      | stuck => rw [hf] at s2; exact s2.elim
      | exc x io =>
        rw [hf] at s2
        exact s2.elim
      | ret d ys =>
        rw [hf] at s2
        have hB : Bd R A1 a0 := .inr ⟨i, by rw [ea]; simp⟩
        refine ⟨by rw [List.length_cons, argsR_len r1, hl], Bd R A1, a0, ws, vs, xs, svs, rfl, fun a z => ⟨rel1.dom a z, rel1.nt a z⟩, hB, eh, r, r1, d, ys, hf, fun v H2 zs x2 hz rz rv => ?_⟩
        have x3 : Ex0 H1 (upd H2 a0 (.lst ws)) := fun b o eb => by
          by_cases hb : b = a0
          · subst hb; rw [upd_same, ← eh, eb]
          · rw [upd_ne hb]; exact x2 b o eb hb
        have ha : a0 ∈ A1 i := by rw [ea]; simp
        have e2 : upd (upd H2 a0 (.lst ws)) a0 (.lst zs) = H2 := by
          funext b
          by_cases hb : b = a0
          · subst hb; rw [upd_same, hz]
          · rw [upd_ne hb, upd_ne hb]
        have rel2 := (rel1.grow x3).write (o := .lst zs) (sv := .own ys) ha (fun _ z => nomatch z) (fun u hu => by
          rw [es0] at hu
          cases hu
          rw [e2]
          exact ⟨a0, zs, ea, rfl, hz, rz⟩) ⟨_, e1⟩
        have p3 : Stp A1 (upd H2 a0 (.lst ws)) A1 (upd (upd H2 a0 (.lst ws)) a0 (.lst zs)) := ⟨Ext.write ha, fun j b z => .inl ⟨j, z⟩⟩
        rw [e2] at rel2 p3
        exact s2 A1 v H2 (p1.trans (x3.stp.trans p3)) rel2 rv
    · rw [if_neg hl] at s2
      exact s2.elim
theorem n_call (c : CalM X.prog X.w X.K X.mg X.base k x (spN X.K X.mg n f)) (hr : Room k X.A) (hgd : X.A.guards = some []) (hg : Gl X x) (ha : PA X (e :: es) (tAs X.K X.mg Wno as)) (hdb : (x == ("__debug__" : Str)) = false := by decide)
    (he : starEach (e :: es) X.env = (false, eval e X.env) :: starEach es X.env := by rfl) (hpl : (backTo pos (starEach es X.env)).any (·.1) = false := by rfl) : PE X (.Call (.Name x p) (e :: es) [] pos) (tN X.K X.mg Wno (nCall n f as)) :=
  PE.imp (pe_callM c hr hgd hg ha hdb he hpl) fun σ H Q ⟨F, R, A, ρ, rel, s⟩ => by
    refine ⟨F, R, A, ρ, rel, sat_mono (sat_bind s) fun svs ρ1 s0 A1 vs H1 p1 rel1 r1 => ?_⟩
    by_cases hl : svs.length = n
    · rw [if_pos hl] at s0
      split at s0
      · rename_i xs io hf
        refine ⟨(argsR_len r1).trans hl, _, svs, fun a z => ⟨rel1.dom a z, rel1.nt a z⟩, r1, xs, io, hf, fun q us H2 x2 hq hq2 rz => ?_⟩
        have hB : ¬ Bd R A1 q := fun z => rel1.dom q z hq
        have hg : Rel X.K X.mg F (fun a => R a ∨ a = q) A1 ρ1 σ (upd H1 q (.lst us)) := rel1.guard hq
        have x3 : Ex0 (upd H1 q (.lst us)) H2 := fun a o e => by
          by_cases h : a = q
          · subst h
            rw [upd_same] at e
            rw [hq2, e]
          · rw [upd_ne h] at e
            exact x2 a o e
        refine s0 A1 q us H2 (p1.trans x2.stp) (hg.grow x3) hB (stp_none_of p1 hq) (rel1.fresh hq).2 hq2 (rz.imp (fun a z => ?_) fun _ _ e _ => e)
        rcases z with (z | z) | z
        · exact .inl (.inl z)
        · exact .inr z
        · exact .inl (.inr z)
      · exact s0.elim
    · rw [if_neg hl] at s0
      exact s0.elim
end
end Mo
end
section
set_option autoImplicit false
set_option linter.all false
set_option Elab.async false
set_option maxHeartbeats 1000000
/-! MK: +, in, repr, sorted of data. -/
namespace Mo
open PySem PySem.Spec L2

section
variable {X : Cx} {W : WX} {e e1 e2 : Expr} {f g : Ex} {l k : Ls} {pos p : Pos} {i : Nat} {b c : Bool}
/-! ### +, * -/
theorem ok_add : OpOk (fun x y H Q => rI0 (fun i j => .int (i + j)) x y H Q ∨ rCatA X.K x y H Q) opAdd := by
  intro B H x y a b d Q ra rb e hB q
  unfold opAdd at e
  split at e
  · cases e
    cases ra
    cases rb
    exact .inl ⟨_, _, rfl, rfl, q _ H (.refl H) (.int _)⟩
  · split at e
    · rename_i hz
      cases e
      cases ra with
      | @tup a1 vs xs h1 n1 r1 =>
        cases rb with
        | @tup a2 ws ys h2 n2 r2 =>
          refine .inr ⟨a1, a2, vs, ws, rfl, rfl, SqT.of h1, SqT.of h2, by rw [r1.length, r2.length]; exact hz, fun e => ?_, fun _ e => ?_, fun _ _ p hp => ?_⟩
          · subst e
            cases r1
            exact q _ H (.refl H) (.tup h2 n2 r2)
          · subst e
            cases r2
            rw [List.append_nil] at q
            exact q _ H (.refl H) (.tup h1 n1 r1)
          · exact q _ _ (Ex0.new hp) (.tup upd_same (fun z => hB p z hp) ((r1.append r2).ex0 (Ex0.new hp)))
    · cases e
  · cases e
theorem op_addA : OpR X (binaryOp .Add) (fun x y H Q => rI0 (fun i j => .int (i + j)) x y H Q ∨ rCatA X.K x y H Q) := OpR.or op_add op_catA
/-- list + list: a new list -/
theorem n_cat (h1 : PE X e1 (tE X.K X.mg W f)) (h2 : PE X e2 (tE X.K X.mg W g)) : PE X (.BinOp e1 .Add e2 pos) (tN X.K X.mg W (nCat f g)) :=
  PE.imp (pe_op op_cat h1 h2) fun σ H Q ⟨F, R, A, ρ, rel, s⟩ => by
    refine ⟨F, R, A, ρ, rel, sat_mono (sat_bind s) fun a ρ1 s1 A1 x H1 p1 rel1 r1 => ?_⟩
    refine ⟨F, R, A1, ρ1, rel1, sat_mono (sat_bind s1) fun b ρ2 s2 A2 y H2 p2 rel2 r2 => ?_⟩
    have r1' := r1.stp p2
    split at s2
    · rename_i xs ys
      cases r1' with
      | @lst a1 vs _ h1 n1 q1 =>
        cases r2 with
        | @lst a2 ws _ h2 n2 q2 =>
          by_cases hz : xs.length + ys.length ≤ maxSeq
          · rw [if_pos hz] at s2
            refine ⟨a1, a2, vs, ws, rfl, rfl, h1, h2, by rw [q1.length, q2.length]; exact hz, fun q hq => ?_⟩
            obtain ⟨x1, x2⟩ := fin_lst rel2 (q1.append q2) hq
            exact s2 A2 q _ _ ((p1.trans p2).trans (Ex0.new hq).stp) x1 (rel2.fresh hq).1 (stp_none (p1.trans p2) hq) (rel2.fresh hq).2 upd_same x2
          · rw [if_neg hz] at s2
            exact s2.elim
    · exact s2.elim
theorem RpAll.rep {B : Addr → Prop} {H : Hp} {vs : List V} {xs : List PyData} (r : RpAll B H vs xs) : ∀ n : Nat, RpAll B H (List.replicate n vs).flatten (List.replicate n xs).flatten
  | 0 => .nil
  | n + 1 => by
    rw [List.replicate_succ, List.replicate_succ, List.flatten_cons, List.flatten_cons]
    exact r.append (RpAll.rep r n)
/-- [..] * n, the list new -/
theorem n_rep (h1 : PE X e1 (tN X.K X.mg W l)) (h2 : PE X e2 (tE X.K X.mg W g)) : PE X (.BinOp e1 .Mult e2 pos) (tN X.K X.mg W (nRep l g)) :=
  PE.imp (pe_op op_rep h1 h2) fun σ H Q ⟨F, R, A, ρ, rel, s⟩ => by
    refine ⟨F, R, A, ρ, rel, sat_mono (sat_bind s) fun xs ρ1 s1 A1 a1 vs H1 p1 rel1 hn hq h0 hl r1 => ?_⟩
    refine ⟨F, _, A1, ρ1, rel1, sat_up (fun a z => .inl z) (sat_bind s1) fun b ρ2 s2 A2 y H2 p2 rel2 r2 => ?_⟩
    have hl2 := (p2.back hl fun i z => rel1.sep i a1 z (.inr rfl)).1
    cases r2 with
    | int n =>
      have s2' : sat (WW X.K X.mg W F R) _ (if (big63 n && decide (xs.length * n.toNat ≤ maxSeq)) = true then Out.ok (List.replicate n.toNat xs).flatten ρ2 else .stuck) := s2
      by_cases hz : (big63 n && decide (xs.length * n.toNat ≤ maxSeq)) = true
      · rw [if_pos hz] at s2'
        unfold big63 at hz
        simp only [Bool.and_eq_true, decide_eq_true_eq] at hz
        refine ⟨a1, n, vs, rfl, rfl, hl2, hz.1.1, hz.1.2, by rw [r1.length]; exact hz.2, fun q hq => ?_⟩
        have rel3 : Rel X.K X.mg F R A2 ρ2 σ H2 := rel2.less fun a z => .inl z
        have r3 : RpAll (Bd R A2) H2 vs xs := (r1.stp p2).imp (fun a z => z.elim (fun z => .inl (.inl z)) .inr) fun _ _ e _ => e
        obtain ⟨x1, x2⟩ := fin_lst rel3 (r3.rep n.toNat) hq
        exact s2' A2 q _ _ ((p1.trans p2).trans (Ex0.new hq).stp) x1 (rel3.fresh hq).1 (stp_none (p1.trans p2) hq) (rel3.fresh hq).2 upd_same x2
      · rw [if_neg hz] at s2'
        exact s2'.elim
    | _ => exact s2.elim

/-! ### in -/
theorem canLayAll_all : ∀ xs : List PyData, PyData.canLayAll0 xs = xs.all (·.canLay0)
  | [] => rfl
  | x :: xs => by
    unfold PyData.canLayAll0
    rw [canLayAll_all xs, List.all_cons]
def rInM (K : PySem.W.Frag) (neg : Bool) : R2 := fun x y H Q => ∃ d ds, Dp K H x d ∧ (Dp K H y (.list ds) ∨ Dp K H y (.tuple ds)) ∧ d.canLay0 = true ∧ PyData.canLayAll0 ds = true ∧ d.depth ≤ 32 ∧ Q (.bl ((ds.any fun z => PyData.eqv z d) != neg)) H
theorem op_inM (hu : X.A.units + 64 < cLine) : OpR X (compareOp .In) (rInM X.K false) := by
  intro pins s σ H x y v u Q I rx ry ⟨d, ds, hd, he, c1, c2, c3, q⟩
  obtain ⟨as, r1⟩ := Dp.reads I d x v hd rx
  have q' : EP X pins σ Q (.bool (ds.any fun z => PyData.eqv z d)) s := by
    refine ⟨.bl _, H, I, rfl, ?_⟩
    rw [show (ds.any fun z => PyData.eqv z d) = ((ds.any fun z => PyData.eqv z d) != false) by cases (ds.any fun z => PyData.eqv z d) <;> rfl]
    exact q
  rcases he with he | he
  · obtain ⟨bs, r2⟩ := Dp.reads I _ y u he ry
    exact SeqAt.in_list_reads r2 r1 c2 c1 (by omega) q'
  · obtain ⟨bs, r2⟩ := Dp.reads I _ y u he ry
    exact SeqAt.in_tuple_reads r2 r1 c2 c1 (by omega) q'
theorem op_notInM (hu : X.A.units + 64 < cLine) : OpR X (compareOp .NotIn) (rInM X.K true) := by
  intro pins s σ H x y v u Q I rx ry ⟨d, ds, hd, he, c1, c2, c3, q⟩
  obtain ⟨as, r1⟩ := Dp.reads I d x v hd rx
  have q' : EP X pins σ Q (.bool (!ds.any fun z => PyData.eqv z d)) s := by
    refine ⟨.bl _, H, I, rfl, ?_⟩
    rw [show (!ds.any fun z => PyData.eqv z d) = ((ds.any fun z => PyData.eqv z d) != true) by cases (ds.any fun z => PyData.eqv z d) <;> rfl]
    exact q
  rcases he with he | he
  · obtain ⟨bs, r2⟩ := Dp.reads I _ y u he ry
    exact SeqAt.notIn_list_reads r2 r1 c2 c1 (by omega) q'
  · obtain ⟨bs, r2⟩ := Dp.reads I _ y u he ry
    exact SeqAt.notIn_tuple_reads r2 r1 c2 c1 (by omega) q'
theorem Lk.dp {K : PySem.W.Frag} {R : Addr → Prop} {A : Nat → List Addr} {H : Hp} {v : V} {xs : List PyData} (h : Lk K b c R A H v xs) : Dp K H v (.list xs) ∨ Dp K H v (.tuple xs) := by
  obtain ⟨a, vs, rfl, r, q | q⟩ := h
  · exact .inl (.lst q.1 r.dp)
  · exact .inr (.tup (SqT.of q.2.1) r.dp)
theorem inL_some {d : PyData} {xs : List PyData} {r : Bool} (h : inL d xs = some r) : d.canLay0 = true ∧ PyData.canLayAll0 xs = true ∧ d.depth ≤ 32 ∧ r = xs.any fun x => PyData.eqv x d := by
  unfold inL at h
  split at h
  · rename_i hc
    cases h
    simp only [Bool.and_eq_true, decide_eq_true_eq] at hc
    exact ⟨hc.1.1, by rw [canLayAll_all]; exact hc.1.2, hc.2, rfl⟩
  · cases h
theorem tIn_of {neg : Bool} (σ : St) (H : Hp) (Q : VK) (s : tE X.K X.mg W (cIn neg f l) σ H Q) : tOp (rInM X.K neg) (tE X.K X.mg W f) (tL X.K X.mg W b c l) σ H Q := by
  obtain ⟨F, R, A, ρ, rel, s⟩ := s
  refine ⟨F, R, A, ρ, rel, sat_mono (sat_bind s) fun a ρ1 s1 A1 x H1 p1 rel1 r1 => ?_⟩
  refine ⟨F, R, A1, ρ1, rel1, sat_mono (sat_bind s1) fun xs ρ2 s2 A2 y H2 p2 rel2 k2 => ?_⟩
  obtain ⟨d, e, s3⟩ := sat_lift s2
  rw [Option.map_eq_some_iff] at e
  obtain ⟨r, e1, rfl⟩ := e
  obtain ⟨c1, c2, c3, rfl⟩ := inL_some e1
  exact ⟨a, xs, (r1.stp p2).dp, k2.dp, c1, c2, c3, s3 A2 _ H2 (p1.trans p2) rel2 (.bl _)⟩
theorem d_in (hu : X.A.units + 64 < cLine) (h1 : PE X e1 (tE X.K X.mg W f)) (h2 : PE X e2 (tL X.K X.mg W b c l)) (hm : behindInMarks .In e2 = false) : PE X (.Compare e1 [.In] [e2] pos) (tE X.K X.mg W (cIn false f l)) :=
  PE.imp (pe_cmpR (op_inM hu) h1 h2 hm) tIn_of
theorem d_notIn (hu : X.A.units + 64 < cLine) (h1 : PE X e1 (tE X.K X.mg W f)) (h2 : PE X e2 (tL X.K X.mg W b c l)) (hm : behindInMarks .NotIn e2 = false) : PE X (.Compare e1 [.NotIn] [e2] pos) (tE X.K X.mg W (cIn true f l)) :=
  PE.imp (pe_cmpR (op_notInM hu) h1 h2 hm) tIn_of
theorem dt_in (hu : X.A.units + 64 < cLine) (h1 : PE X e1 (tE X.K X.mg W f)) (h2 : PE X e2 (tL X.K X.mg W b c l)) (hm : behindInMarks .In e2 = false) : PT X (.Compare e1 [.In] [e2] pos) (tT X.K X.mg W (tD (cIn false f l))) :=
  PT.imp (pt_cmpR (op_inM hu) h1 h2 hm) (tB_of tIn_of)
theorem dt_notIn (hu : X.A.units + 64 < cLine) (h1 : PE X e1 (tE X.K X.mg W f)) (h2 : PE X e2 (tL X.K X.mg W b c l)) (hm : behindInMarks .NotIn e2 = false) : PT X (.Compare e1 [.NotIn] [e2] pos) (tT X.K X.mg W (tD (cIn true f l))) :=
  PT.imp (pt_cmpR (op_notInM hu) h1 h2 hm) (tB_of tIn_of)

/-! ### repr -/
theorem reprOk_at {d : PyData} (h : reprOk d = true) : d.canLay0 = true ∧ d.depth ≤ 64 ∧ d.showable = true ∧ d.shown.length ≤ sizeLine := by
  unfold reprOk PyData.layable0 at h
  simp only [Bool.and_eq_true, decide_eq_true_eq] at h
  obtain ⟨⟨⟨⟨h1, h2⟩, h3⟩, h4⟩, h5⟩ := h
  exact ⟨h1, h2, h4, PyData.shown_fits (by decide) (by decide) (PyData.leavesShort_of_canLay0 13 d h1 h5) h3⟩
mutual
theorem canLay0_noDict : ∀ d : PyData, d.canLay0 = true → d.hasDict = false
  | .none, _ => rfl
  | .bool _, _ => rfl
  | .int _, _ => rfl
  | .str _, _ => rfl
  | .list xs, h => by
    simp only [PyData.canLay0] at h
    simp only [PyData.hasDict]
    exact canLayAll0_noDict xs h
  | .tuple xs, h => by
    simp only [PyData.canLay0] at h
    simp only [PyData.hasDict]
    exact canLayAll0_noDict xs h
  | .dict _, h => by simp only [PyData.canLay0] at h; cases h
theorem canLayAll0_noDict : ∀ xs : List PyData, PyData.canLayAll0 xs = true → PyData.hasDictAll xs = false
  | [], _ => by simp only [PyData.hasDictAll]
  | x :: xs, h => by
    simp only [PyData.canLayAll0, Bool.and_eq_true] at h
    simp only [PyData.hasDictAll, canLay0_noDict x h.1, canLayAll0_noDict xs h.2, Bool.or_self]
end
def rReprM (K : PySem.W.Frag) : List V → Hp → VK → Prop := fun vs H Q => ∃ a d, vs = [.ref a] ∧ Dp K H (.ref a) d ∧ reprOk d = true ∧ Q (.str d.shown) H
theorem cr_reprM (hgd : X.A.guards = some []) (hu : X.A.units + 128 < cLine) : CallR X (.builtin "repr") (rReprM X.K) := by
  intro pins s σ H vs us Q I r ⟨a, d, e, hd, ok, q⟩
  subst e
  rw [Vals.ref1 r]
  obtain ⟨as, r1⟩ := Dp.reads I d _ _ hd (show RelV (.ref a) (.ref a) from rfl)
  obtain ⟨o1, o2, o3, o4⟩ := reprOk_at ok
  refine repr_of_reads' r1 o3 (fun z => by rw [canLay0_noDict d o1] at z; cases z) hgd (by omega) (fun _ _ e => e) (fun h' u tk hk => ?_) o4
  exact ⟨.str d.shown, H, I.kept (t' := tk) hk, ⟨u, rfl⟩, q⟩
theorem d_repr (hgd : X.A.guards = some []) (hu : X.A.units + 128 < cLine) (hg : Gl X "repr") (hm : X.mg "repr" = none) (h1 : PE X e (tE X.K X.mg W f)) (na : starEach [e] X.env = (false, eval e X.env) :: starEach [] X.env := by rfl) : PE X (.Call (.Name "repr" p) [e] [] pos) (tE X.K X.mg W (cRepr f)) :=
  PE.imp (pe_callB (cr_reprM hgd hu) hg hm (by decide +kernel) (pa_cons h1 pa_nil na) (by decide) (by decide) na) (tCB1_of fun B H x a d Q ra e hB q => by
    unfold opRepr at e
    split at e
    · rename_i hc
      simp only [Bool.and_eq_true] at hc
      cases e
      cases ra with
      | lst h n r => exact ⟨_, _, rfl, (Rp.lst h n r).dp, hc.2, q _ H (.refl H) (.str _)⟩
      | tup h n r => exact ⟨_, _, rfl, (Rp.tup h n r).dp, hc.2, q _ H (.refl H) (.str _)⟩
      | _ => cases hc.1
    · cases e)
end
end Mo
end
section
set_option autoImplicit false
set_option linter.all false
set_option Elab.async false
set_option maxHeartbeats 1000000
/-! MK2: sorted(xs) of data that compare. -/
namespace Mo
open PySem PySem.Spec L2

theorem sortOk_at {ds : List PyData} (h : sortOk ds = true) : PySem.W.AllAlike ds ∧ PySem.W.Sortable ds ∧ ds.length ≤ sizeLine ∧ ∀ d ∈ ds, d.depth ≤ 32 := by
  unfold sortOk at h
  simp only [Bool.and_eq_true, decide_eq_true_eq] at h
  obtain ⟨⟨⟨h1, h2⟩, h3⟩, h4⟩ := h
  refine ⟨fun d hd e he => ?_, ?_, h3, fun d hd => ?_⟩
  · unfold alikeL at h1
    exact List.all_eq_true.mp (List.all_eq_true.mp h1 d hd) e he
  · unfold sortableL at h2
    rw [Bool.or_eq_true] at h2
    rcases h2 with h2 | h2
    · refine .inl fun d hd => ?_
      have := List.all_eq_true.mp h2 d hd
      cases d with
      | tuple xs =>
        cases xs with
        | nil => exact absurd this (by decide)
        | cons x r => exact ⟨x, r, rfl⟩
      | _ => exact absurd this (by simp)
    · refine .inr fun d hd => ?_
      have := List.all_eq_true.mp h2 d hd
      cases d with
      | none => exact absurd this (by decide)
      | tuple xs => exact absurd this (by simp)
      | _ => exact ⟨fun z => (nomatch z), fun _ z => (nomatch z)⟩
  · exact of_decide_eq_true (List.all_eq_true.mp h4 d hd)
theorem dpAll_len {K : PySem.W.Frag} {H : Hp} : ∀ {ds : List PyData} {vs : List V}, DpAll K H vs ds → vs.length = ds.length
  | _, _, .nil => rfl
  | _, _, .cons _ r => congrArg Nat.succ (dpAll_len r)
theorem each_rel {X : Cx} {pins : List (Addr × Obj)} {σ : L2.St} {H : Hp} {s : Shared} (I : Inv X pins σ H s) : ∀ {ds : List PyData} {vs : List V} {us : List Value}, DpAll X.K H vs ds → Vals vs us →
    PySem.W.EachIs (fun (u : Value) (b : PyData × V) => RelV b.2 u) us (ds.zip vs) ∧ PySem.W.EachIs (fun (u : Value) (b : PyData × V) => ∃ as, Reads s.heap u b.1 as) us (ds.zip vs)
  | _, _, _, .nil, .nil => ⟨.nil, .nil⟩
  | d :: ds, v :: vs, _, .cons h t, .cons r rr => by
    obtain ⟨q1, q2⟩ := each_rel I t rr
    exact ⟨.cons r q1, .cons (Dp.reads I d v _ h r) q2⟩
theorem vals_each : ∀ {us : List Value} {bs : List (PyData × V)}, PySem.W.EachIs (fun (u : Value) (b : PyData × V) => RelV b.2 u) us bs → Vals (bs.map (·.2)) us
  | _, _, .nil => .nil
  | _, _, .cons r t => .cons r (vals_each t)
theorem zip_fst : ∀ {ds : List PyData} {vs : List V}, vs.length = ds.length → (ds.zip vs).map (·.1) = ds
  | [], [], _ => rfl
  | d :: ds, v :: vs, h => by
    show d :: (ds.zip vs).map (·.1) = d :: ds
    rw [zip_fst (by simpa using h)]
  | [], _ :: _, h => by cases h
  | _ :: _, [], h => by cases h
/-- the items, data and values together, in order -/
def sortBoth (ds : List PyData) (vs : List V) : List (PyData × V) := (ds.zip vs).mergeSort (PySem.W.dataLe false (·.1))
def rSortM (K : PySem.W.Frag) : List V → Hp → VK → Prop := fun us H Q => ∃ a vs ds, us = [.ref a] ∧ SqL K H a vs ∧ DpAll K H vs ds ∧ sortOk ds = true ∧ ∀ p, H p = none → Q (.ref p) (upd H p (.lst ((sortBoth ds vs).map (·.2))))
theorem cr_sortM {X : Cx} (hu : X.A.units + 64 < cLine) : CallR X (.builtin "sorted") (rSortM X.K) := by
  intro pins s σ H us ws Q I r ⟨a, vs, ds, e, hs, hd, ok, q⟩
  subst e
  obtain ⟨its, rv, hl, hz⟩ := I.list hs
  rw [Vals.ref1 r]
  obtain ⟨o1, o2, o3, o4⟩ := sortOk_at ok
  have hln := dpAll_len hd
  have ez := zip_fst hln
  obtain ⟨q1, q2⟩ := each_rel I hd rv
  have lz : (ds.zip vs).length = ds.length := by rw [List.length_zip, hln, Nat.min_self]
  refine PySem.W.sorted_data (enc := fun b : PyData × V => b.1) hl.isList q1 q2 (by rw [ez]; exact o1) (by rw [ez]; exact o2) (by rw [lz]; exact o3) (fun b hb => ?_) fun out ho er => ?_
  · have hb' : b.1 ∈ ds := by rw [← ez]; exact List.mem_map.mpr ⟨b, hb, rfl⟩
    have := o4 _ hb'
    omega
  · obtain ⟨ep, he'⟩ := PyProof.Rows.sortedAll_at s.heap its out.toArray
    have hlen : ((sortBoth ds vs).map (·.2)).length ≤ sizeLine := by
      unfold sortBoth
      rw [List.length_map, List.length_mergeSort, lz]
      exact o3
    exact ⟨.ref _, upd H (s.heap.objs.size + 1) (.lst ((sortBoth ds vs).map (·.2))), I.laid (t' := s.toks) (fun _ _ => PyProof.Rows.sortedAll_old) (Nat.le_succ _) ⟨hlen, out, ep, vals_each er, he'⟩, rfl, q _ (I.hok.fresh (Nat.le_succ _))⟩
theorem rpAll_mem {B : Addr → Prop} {H : Hp} : ∀ {ds : List PyData} {vs : List V}, RpAll B H vs ds → ∀ b ∈ ds.zip vs, Rp B H b.2 b.1
  | _, _, .nil, _, h => nomatch h
  | _, _, .cons r t, b, h => by
    rcases List.mem_cons.mp (show b ∈ (_, _) :: _ from h) with z | z
    · rw [z]; exact r
    · exact rpAll_mem t b z
theorem rpAll_of {B : Addr → Prop} {H : Hp} : ∀ {bs : List (PyData × V)}, (∀ b ∈ bs, Rp B H b.2 b.1) → RpAll B H (bs.map (·.2)) (bs.map (·.1))
  | [], _ => .nil
  | b :: bs, h => .cons (h b List.mem_cons_self) (rpAll_of fun x hx => h x (List.mem_cons_of_mem _ hx))
theorem sortBoth_rp {B : Addr → Prop} {H : Hp} {ds : List PyData} {vs : List V} (r : RpAll B H vs ds) : RpAll B H ((sortBoth ds vs).map (·.2)) (sortD ds) := by
  have e : (sortBoth ds vs).map (·.1) = sortD ds := by
    unfold sortBoth sortD
    have q := List.map_mergeSort (r := PySem.W.dataLe false fun b : PyData × V => b.1) (s := PySem.W.dataLe false (id : PyData → PyData)) (f := fun b : PyData × V => b.1) (l := ds.zip vs) (fun a _ b _ => rfl)
    rw [q, zip_fst r.length]
  rw [← e]
  exact rpAll_of fun b hb => rpAll_mem r b (List.mem_mergeSort.mp hb)
section
variable {X : Cx} {W : WX} {e : Expr} {l : Ls} {pos p : Pos} {b : Bool}
theorem n_sorted (hu : X.A.units + 64 < cLine) (hg : Gl X "sorted") (hm : X.mg "sorted" = none) (h1 : PE X e (tL X.K X.mg W b false l)) (na : starEach [e] X.env = (false, eval e X.env) :: starEach [] X.env := by rfl) : PE X (.Call (.Name "sorted" p) [e] [] pos) (tN X.K X.mg W (nSorted l)) :=
  PE.imp (pe_callB (cr_sortM hu) hg hm (by decide +kernel) (pa_cons h1 pa_nil na) (by decide) (by decide) na) fun σ H Q ⟨F, R, A, ρ, rel, s⟩ => by
    refine ⟨F, R, A, ρ, rel, sat_mono (sat_bind s) fun xs ρ1 s1 A1 v H1 p1 rel1 k => ?_⟩
    obtain ⟨a, vs, rfl, r, q⟩ := k.lst
    by_cases hz : sortOk xs = true
    · rw [if_pos hz] at s1
      refine ⟨a, vs, xs, rfl, q, r.dp, hz, fun y hy => ?_⟩
      obtain ⟨x1, x2⟩ := fin_lst rel1 (sortBoth_rp r) hy
      exact s1 A1 y _ _ (p1.trans (Ex0.new hy).stp) x1 (rel1.fresh hy).1 (stp_none p1 hy) (rel1.fresh hy).2 upd_same x2
    · rw [if_neg hz] at s1
      exact s1.elim
end
end Mo
end
section
set_option autoImplicit false
set_option linter.all false
set_option Elab.async false
set_option maxHeartbeats 1000000
set_option maxRecDepth 100000
/-! MDT: a dict comprehension whose keys are tuples of ints (the core turned from HandS.DictComp's). -/
namespace Mo
open PyProof.Rows hiding St
open PySem PySem.Spec L2
/-- d[k] = v by such a comprehension -/
theorem d_dictSetT {X : Cx} {pins : List (Addr × Obj)} {σ : L2.St} {H : Hp} {s : Shared} {E : Value → Shared → Prop} {D b : Addr} {kvs : List (List Key × V)} {k : List Key} {v : V} {u r : Value} {Q : Unit → Shared → Prop} (I : Inv X pins σ H s) (hD : H D = some (.dT kvs)) (eb : H b = some (.tup (k.map kV))) (hz : kvs.length < sizeLine)
    (ry : RelV (.ref b) u) (rv : RelV v r) (hu : X.A.units + 1 < cLine) (h : ∀ s', Inv X pins σ (upd H D (.dT (putK kvs k v))) s' → Q () s') : wpAny (model X.prog X.w) X.A (dictSet D u r) Q E s := by
  cases (show u = Value.ref b from ry)
  obtain ⟨z, hd, xs, rel, dd⟩ := dt_of I.hok hD
  have hzx : xs.length ≤ sizeLine := by rw [← Paired.length rel]; exact z
  have hl : (putK kvs k v).length ≤ sizeLine := by have := length_putK kvs k v; omega
  refine wpAny_dictSet_heap (hsz := hzx) (show (tupleKind (mixKind X.prog X.w)).room X.A from ?_) (key_of I.hok eb) dd fun h' dd' hs => h _ ?_
  · show X.A.units < cLine
    omega
  · obtain ⟨q, es, ep, hq, h2, h3, h4, _, h5⟩ := dd'
    refine d_write I (by rw [hD]; exact True.intro) hs ⟨q, hq⟩ ⟨hl, hd, _, (rel.put k eb rv).keeps fun c ys ec => ?_, q, es, ep, hq, h2, h3, h4, h5⟩
    rw [upd_ne (ne_of ec hD (fun z => nomatch z))]
    exact ec
section
variable {X : Cx}
def tDcT (wi : TI) (g : TG) (tt : TT) (tk tv : TE) (vs : List Nat) : TE := fun σ H Q => wi σ H fun J H1 => ∀ D, H1 D = none → ∃ W : Nat → Nat → Hp → Prop, (∃ m, W 0 m (upd H1 D (.dT []))) ∧ ∀ i m H, W i m H →
  (J.stop i H ∧ Q (.ref D) H) ∨ (J.go i H ∧ ∃ Nx : Hp → Prop, (∀ H', Nx H' → ∃ m', m' < m ∧ W (i + 1) m' H') ∧ ∀ x H', J.yld i H x H' → g x (wipe σ vs) H' fun σ2 H2 => wipe σ2 vs = wipe σ vs ∧ tt σ2 H2 fun b H3 =>
    if b = true then tk σ2 H3 fun y H4 => tv σ2 H4 fun z H5 => ∃ kvs k b, y = .ref b ∧ H5 b = some (.tup (List.map kV k)) ∧ H5 D = some (.dT kvs) ∧ kvs.length < sizeLine ∧ Nx (upd H5 D (.dT (putK kvs k z))) else Nx H3)
theorem dcT_core {pins : List (Addr × Obj)} {s : Shared} {σ : St} {H : Hp} {Q : VK} {kx vx tg iter : Expr} {ifs : List Expr} {scope : Scope} {own : List (Str × Nat)} {pos pos' : Pos} {wi : TI} {g : TG} {tt : TT} {tk tv : TE} {use : Option (Value → Sem Unit)} {Qf : Value → Shared → Prop}
    (hu : X.A.units + 1 < cLine) (hc : X.calm = true) (hN : X.N.Nodup) (I : Inv X pins σ H s) (hi : PI X tg iter wi) (ok : BlkOk X.N X.env.scope scope own)
    (hg : ∀ (s : Shared) (H : Hp) (C : Addr) (cl : List (Str × Addr)) (fp : List Addr), PG (X.blk s H scope (compEnvC scope cl C X.env) fp) tg g) (ht : ∀ (s : Shared) (H : Hp) (C : Addr) (cl : List (Str × Addr)) (fp : List Addr), PTs (X.blk s H scope (compEnvC scope cl C X.env) fp) ifs tt)
    (hk : ∀ (s : Shared) (H : Hp) (C : Addr) (cl : List (Str × Addr)) (fp : List Addr), PE (X.blk s H scope (compEnvC scope cl C X.env) fp) kx tk)
    (he : ∀ (s : Shared) (H : Hp) (C : Addr) (cl : List (Str × Addr)) (fp : List Addr), PE (X.blk s H scope (compEnvC scope cl C X.env) fp) vx tv) (hs : ∀ x, foldedSetIterable iter X.env x = pure x)
    (h : tDcT wi g tt tk tv (own.map (·.2)) σ H Q)
    (hRR : ∀ D C s' m H', Inv X pins σ H' s' → Q (.ref D) H' → s'.heap.Ns C m → FpOk X pins H' C → compPost (model X.prog X.w) X.A X.xe use Qf (.ref D) C (.ok .next) s') :
    wpAny (model X.prog X.w) X.A (comprehension (.DictComp kx vx [⟨tg, iter, ifs, 0⟩] scope pos) scope X.env pos' newDict false (eval iter X.env) use) Qf X.xe s := by
  have hfree : ∀ y ∈ scope.names, y.2 = .free → ∃ c, X.env.cells.lookup y.1 = some c := fun y hy e => by
    rcases ok.free y hy e with k | k
    · exact I.ok.has _ (.inl k)
    · exact I.ok.has _ (.inr k)
  refine wpAny_comprehension_free (use := use) rfl hs (closure_ok hfree) ok.kind (fun y hy e => by rw [ok.uniq y hy, e])
    (thn (hi.run pins s σ H _ I h) fun xv s1 hx => thn hx fun itv s2 h2 => ?_)
  obtain ⟨it, fp, tn, J, H2, e, I2, T, st2, f2, q⟩ := h2
  subst e
  refine wpAny_newObj_type (newEnv_comp ?_)
  generalize hD : s2.heap.objs.size = D
  have hDn : H2 D = none := I2.hok.fresh (Nat.le_of_eq hD)
  obtain ⟨W, ⟨m0, w0⟩, turn⟩ := q D hDn
  -- the new list
  generalize hs3 : ({ s2 with heap := s2.heap.push { cls := .type "dict", data := .dict #[] } } : Shared) = s3
  have I3 : Inv X pins σ (upd H2 D (.dT [])) s3 := by
    rw [← hs3]
    refine I2.laid (t' := s2.toks) (fun b o e => Heap.get?_push_of_some _ e) (Nat.le_of_eq hD) ?_
    rw [← hD]
    exact dt_empty s2.heap I2.big
  have h3 : s3.heap = s2.heap.push { cls := .type "dict", data := .dict #[] } := by rw [← hs3]
  have sz : ∀ b ∈ fp, b < s2.heap.objs.size := fun b hb => by
    obtain ⟨o, e, _⟩ := T.obj _ _ st2 b hb
    exact Heap.lt_size e
  have f3 : ∀ b ∈ fp, FpOk X pins (upd H2 D (.dT [])) b ∧ b < s3.heap.objs.size := fun b hb => by
    have hlt := sz b hb
    refine ⟨⟨?_, (f2 b hb).2⟩, by rw [h3, Heap.size_push]; exact Nat.lt_succ_of_lt hlt⟩
    rw [upd_ne (by rw [← hD]; exact Nat.ne_of_lt hlt)]
    exact (f2 b hb).1
  have st3 : tn 0 s3.heap := T.keep _ _ _ st2 fun b _ o e => by rw [h3]; exact Heap.get?_push_of_some _ e
  have I4 := block_start I3 ok hN f3
  have pg := hg s3 (upd H2 D (.dT [])) s3.heap.objs.size (cellsFrom (s3.heap.objs.size + 1) scope.names (cloFrom X.env.cells scope.names [])) fp
  have pt := ht s3 (upd H2 D (.dT [])) s3.heap.objs.size (cellsFrom (s3.heap.objs.size + 1) scope.names (cloFrom X.env.cells scope.names [])) fp
  have pk := hk s3 (upd H2 D (.dT [])) s3.heap.objs.size (cellsFrom (s3.heap.objs.size + 1) scope.names (cloFrom X.env.cells scope.names [])) fp
  have pe := he s3 (upd H2 D (.dT [])) s3.heap.objs.size (cellsFrom (s3.heap.objs.size + 1) scope.names (cloFrom X.env.cells scope.names [])) fp
  show codeAny _ _ (.compStart (.DictComp kx vx [⟨tg, iter, ifs, 0⟩] scope pos) 0 (.ref it) (.ref D) (compEnvC scope (cellsFrom (s3.heap.objs.size + 1) scope.names (cloFrom X.env.cells scope.names [])) s3.heap.objs.size X.env)) (compPost (model X.prog X.w) X.A X.xe use Qf (.ref D) s3.heap.objs.size) { s3 with heap := pushCells (s3.heap.push { cls := .type "dict", data := .dict #[] }) scope.names }
  have nfp : ∀ b ∈ fp, (upd H2 D (.dT [])) b = none := fun b hb => (f3 b hb).1.1
  generalize hce : compEnvC scope (cellsFrom (s3.heap.objs.size + 1) scope.names (cloFrom X.env.cells scope.names [])) s3.heap.objs.size X.env = ce at I4 pg pt pk pe ⊢
  have cL : ce.locals = s3.heap.objs.size := by subst hce; rfl
  generalize hH3 : upd H2 D (.dT []) = H3 at I3 I4 pg pt pk pe w0 nfp f3
  generalize hs4 : ({ s3 with heap := pushCells (s3.heap.push { cls := .type "dict", data := .dict #[] }) scope.names } : Shared) = s4 at I4 ⊢
  have st4 : tn 0 s4.heap := T.keep _ _ _ st3 fun b _ o e => by rw [← hs4]; exact pushCells_keeps _ _ _ _ (Heap.get?_push_of_some _ e)
  have stat : ∀ {σ' : St} {H' : Hp} {s' : Shared}, Inv (X.blk s3 H3 scope ce fp) [] σ' H' s' → (∀ b ∈ fp, H' b = none) → ∀ b ∈ fp, FpOk (X.blk s3 H3 scope ce fp) [] H' b := fun {σ' H' s'} I' hn b hb =>
    ⟨hn b hb, (I'.ok.exf b hb).1, I'.ok.exfs b hb, .inl hb, fun x c e => (I'.ok.exf b hb).2 x c e, fun p hp => absurd (show p ∈ ([] : List (Addr × Obj)) ++ [] from hp) (by simp)⟩
  have loop : codeAny (model X.prog X.w) X.A (.compLoop (.DictComp kx vx [⟨tg, iter, ifs, 0⟩] scope pos) 0 (.ref it) (.ref D) ce) (compPost (model X.prog X.w) X.A X.xe use Qf (.ref D) s3.heap.objs.size) s4 := by
    refine compLoop_anyD (fun n s' => ∃ i H', Inv (X.blk s3 H3 scope ce fp) [] (wipe σ (own.map (·.2))) H' s' ∧ tn i s'.heap ∧ (∀ b ∈ fp, H' b = none) ∧ W i n H') ?_ m0 ⟨0, H3, I4, st4, nfp, w0⟩
    rintro n s5 ⟨i, H5, I5, st5, n5, w5⟩
    rcases turn i n H5 w5 with ⟨stop, qq⟩ | ⟨go, Nx, hNx, step⟩
    · have td := T.done (X.blk s3 H3 scope ce fp) rfl rfl rfl hc i [] s5 _ H5 (fun _ _ => False) I5 (stat I5 n5) st5 stop
      refine thnF td fun r s6 ⟨hr, I6⟩ => ?_
      subst hr
      -- back in the def's context
      have I7 : Inv X pins σ H5 s6 := I3.call' (ch := fp) I6.os I6.base I6.hok I6.bare fun b hb => ⟨(f3 b hb).1.2.2.2.1, (f3 b hb).1.2.1, (f3 b hb).1.2.2.2.2.1, (f3 b hb).1.2.2.2.2.2⟩
      have nC : H5 s3.heap.objs.size = none := by
        have z : H5 ce.locals = none := I6.free
        rw [cL] at z
        exact z
      obtain ⟨m, hn, _⟩ := I6.loc
      have hn : s6.heap.Ns ce.locals m := hn
      rw [cL] at hn
      exact hRR D s3.heap.objs.size s6 m H5 I7 qq hn (I3.fpOk (Nat.le_refl _) nC)
    · have ti := T.item (X.blk s3 H3 scope ce fp) rfl rfl rfl hc i [] s5 _ H5 (fun _ _ => False) I5 (stat I5 n5) st5 go
      refine thnF ti fun r s6 ⟨u, hr, h6⟩ => ?_
      subst hr
      refine thnF h6 fun _ s7 ⟨x, H7, I7, r7, y7, st7, n7⟩ => ?_
      have I7' := I7.pinned (stat I7 n7) (T.obj _ _ st7)
      refine thnF (pg.run _ s7 _ H7 x u _ I7' r7 (step x H7 y7)) fun _ s8 ⟨σ8, H8, I8, hw8, q8⟩ => ?_
      refine thnF (pt.run _ s8 σ8 H8 _ I8 q8) fun b s9 ⟨H9, I9, q9⟩ => ?_
      -- the turn's end
      have fin : ∀ {s' : Shared} {H' : Hp}, Inv (X.blk s3 H3 scope ce fp) ([] ++ pinsAt fp s7.heap) σ8 H' s' → Nx H' → ∃ m, m < n ∧ ∃ i H', Inv (X.blk s3 H3 scope ce fp) [] (wipe σ (own.map (·.2))) H' s' ∧ tn i s'.heap ∧ (∀ b ∈ fp, H' b = none) ∧ W i m H' := fun {s' H'} I' nx => by
        obtain ⟨m', hm, w'⟩ := hNx H' nx
        have pin' : ∀ b ∈ fp, ∀ o, s7.heap.get? b = some o → s'.heap.get? b = some o ∧ H' b = none := fun b hb o e =>
          let z := I'.pin (b, o) (List.mem_append_right _ (List.mem_append_right _ (mem_pinsAt hb e)))
          ⟨z.1, z.2.1⟩
        have hl : (wipe σ (own.map (·.2))).length = σ8.length := by rw [← hw8, wipe_length]
        refine ⟨m', hm, i + 1, H', (I'.unpinned (pins := [])).weak hl (fun j v e => ?_), T.keep _ _ _ st7 fun b hb o e => (pin' b hb o e).1, fun b hb => ?_, w'⟩
        · rw [← hw8] at e
          exact (wipe_some e).1
        · obtain ⟨o, e, _⟩ := T.obj _ _ st7 b hb
          exact (pin' b hb o e).2
      cases b with
      | false =>
        simp only [Bool.false_eq_true, if_false] at q9 ⊢
        exact fin I9 q9
      | true =>
        simp only [if_true] at q9 ⊢
        refine thnF (pk.run _ s9 σ8 H9 _ I9 q9) fun z s10 ⟨yk, H10, I10, r10, q10⟩ => ?_
        refine thnF (pe.run _ s10 σ8 H10 _ I10 q10) fun z2 s11 ⟨yv, H11, I11, r11, kvs, k, bk, ek, hb11, hD11, hz11, nx⟩ => ?_
        subst ek
        exact d_dictSetT (X := X.blk s3 H3 scope ce fp) I11 hD11 hb11 hz11 r10 r11 hu fun s12 I12 => fin I12 nx
  exact codeAny_compStart_dict loop (T.self X.A 0 _ _ _ st4 loop)
theorem pe_dcT {kx vx tg iter : Expr} {ifs : List Expr} {scope : Scope} {own : List (Str × Nat)} {pos : Pos} {wi : TI} {g : TG} {tt : TT} {tk tv : TE} (hu : X.A.units + 1 < cLine) (hc : X.calm = true) (hN : X.N.Nodup) (hi : PI X tg iter wi) (ok : BlkOk X.N X.env.scope scope own)
    (hg : ∀ (s : Shared) (H : Hp) (C : Addr) (cl : List (Str × Addr)) (fp : List Addr), PG (X.blk s H scope (compEnvC scope cl C X.env) fp) tg g) (ht : ∀ (s : Shared) (H : Hp) (C : Addr) (cl : List (Str × Addr)) (fp : List Addr), PTs (X.blk s H scope (compEnvC scope cl C X.env) fp) ifs tt)
    (hk : ∀ (s : Shared) (H : Hp) (C : Addr) (cl : List (Str × Addr)) (fp : List Addr), PE (X.blk s H scope (compEnvC scope cl C X.env) fp) kx tk)
    (he : ∀ (s : Shared) (H : Hp) (C : Addr) (cl : List (Str × Addr)) (fp : List Addr), PE (X.blk s H scope (compEnvC scope cl C X.env) fp) vx tv) (hs : ∀ x, foldedSetIterable iter X.env x = pure x := by intro _; rfl) :
    PE X (.DictComp kx vx [⟨tg, iter, ifs, 0⟩] scope pos) (tDcT wi g tt tk tv (own.map (·.2))) := by
  refine ⟨fun pins s σ H Q I h => ?_⟩
  rw [arm_eval_DictComp]
  refine dcT_core hu hc hN I hi ok hg ht hk he hs h fun D C s' m H' I' q hn f => ⟨m, hn, fun h'' sb => ?_⟩
  obtain ⟨f0, f1, f2, f3, f4, f5⟩ := f
  exact ⟨.ref D, H', I'.turned (t' := s'.toks) (fun b o hb e => (sb.2 b hb).trans e) f0 f1 f3 f4 f5, rfl, q⟩
/-- what was made is not changed any more -/
def tFrzE (t : TE) : TE := fun σ H Q => t σ H fun v H1 => ∃ a u, v = .ref a ∧ H1 a = some u ∧ Mut (some u) ∧ ∀ od, Q v (upd H1 a (.frz od u))
theorem pe_frz {e : Expr} {t : TE} (h : PE X e t) : PE X e (tFrzE t) := by
  refine ⟨fun pins s σ H Q I hw => ?_⟩
  refine thn (h.run pins s σ H _ I hw) fun u s1 ⟨x, H1, I1, r1, a, o, ex, ha, mu, q⟩ => ?_
  obtain ⟨od, I2⟩ := I1.lock ha mu
  exact ⟨x, _, I2, r1, q od⟩
end
end Mo
end
section
set_option autoImplicit false
set_option linter.all false
set_option Elab.async false
set_option maxHeartbeats 1000000
/-! MD: dicts: of tuple keys, made once; of new lists. -/
namespace Mo
open PySem PySem.Spec L2

/-! ### looking up -/
def kI (ns : List Int) : List Key := ns.map Sum.inl
theorem kI_kV (ns : List Int) : (kI ns).map kV = ns.map V.int := by
  unfold kI
  rw [List.map_map]
  rfl
theorem kI_inj {a b : List Int} (h : kI a = kI b) : a = b := (List.map_inj_right fun _ _ z => by cases z; rfl).mp h
theorem repKP_dec {ns ms : List Int} {k : List Key} (h : k = kI ns) : decide (k = kI ms) = decide (ns = ms) := by
  by_cases e : ns = ms
  · rw [h, e]; simp
  · rw [decide_eq_false e, decide_eq_false (fun z => e (kI_inj (h.symm.trans z)))]
section
variable {B : Addr → Prop} {H : Hp}
abbrev PK (B : Addr → Prop) (H : Hp) (p : List Key × V) (q : List Int × PyData) : Prop := p.1 = kI q.1 ∧ Rp B H p.2 q.2
theorem repKP_any {ns : List Int} : ∀ {ws : List (List Key × V)} {kvs : List (List Int × PyData)}, Paired (PK B H) ws kvs → (ws.any fun kv => decide (kv.1 = kI ns)) = kvs.any fun kv => decide (kv.1 = ns)
  | _, _, .nil => rfl
  | _, _, .cons h t => by
    rw [List.any_cons, List.any_cons, repKP_any t, repKP_dec h.1]
theorem repKP_look {ns : List Int} : ∀ {ws : List (List Key × V)} {kvs : List (List Int × PyData)}, Paired (PK B H) ws kvs → (valV ws (kI ns)).isSome = (look ns kvs).isSome
  | _, _, .nil => rfl
  | p :: ws, q :: kvs, .cons h t => by
    unfold valV look
    rw [List.find?_cons, List.find?_cons, repKP_dec h.1]
    by_cases e : q.1 = ns
    · rw [decide_eq_true e]
      rfl
    · rw [decide_eq_false e]
      exact repKP_look t
theorem repKP_map {ns : List Int} {v : V} {d : PyData} (hv : Rp B H v d) : ∀ {ws : List (List Key × V)} {kvs : List (List Int × PyData)}, Paired (PK B H) ws kvs →
    Paired (PK B H) (ws.map fun kv => if kv.1 = kI ns then (kv.1, v) else kv) (kvs.map fun kv => if kv.1 = ns then (kv.1, d) else kv)
  | _, _, .nil => .nil
  | p :: ws, q :: kvs, .cons h t => by
    rw [List.map_cons, List.map_cons]
    refine .cons ?_ (repKP_map hv t)
    by_cases e : q.1 = ns
    · rw [if_pos e, if_pos (by rw [h.1, e])]
      exact ⟨h.1, hv⟩
    · rw [if_neg e, if_neg (fun z => e (kI_inj (h.1.symm.trans z)))]
      exact h
theorem paired_snoc {α β : Type} {P : α → β → Prop} {a : α} {b : β} (h : P a b) : ∀ {xs : List α} {ys : List β}, Paired P xs ys → Paired P (xs ++ [a]) (ys ++ [b])
  | _, _, .nil => .cons h .nil
  | _, _, .cons q t => .cons q (paired_snoc h t)
theorem repKP_put {ns : List Int} {v : V} {d : PyData} {ws : List (List Key × V)} {kvs : List (List Int × PyData)} (h : Paired (PK B H) ws kvs) (hv : Rp B H v d) : Paired (PK B H) (putK ws (kI ns) v) (putKV ns d kvs) := by
  unfold putK putKV
  rw [repKP_any h]
  split
  · exact repKP_map hv h
  · exact paired_snoc ⟨rfl, hv⟩ h
end
theorem keyP_some {d : PyData} {ns : List Int} (h : keyP d = some ns) : ∃ xs, d = .tuple xs ∧ intsOf xs = some ns := by
  unfold keyP at h
  split at h
  · exact ⟨_, rfl, h⟩
  · cases h
theorem intsOf_map : ∀ {xs : List PyData} {ns : List Int}, intsOf xs = some ns → xs = ns.map .int
  | [], ns, h => by simp [intsOf] at h; subst h; rfl
  | x :: xs, ns, h => by
    cases x with
    | int i =>
      simp only [intsOf, Option.map_eq_some_iff] at h
      obtain ⟨ms, h1, rfl⟩ := h
      rw [intsOf_map h1]
      rfl
    | _ => simp [intsOf] at h
theorem Rp.key {B : Addr → Prop} {H : Hp} {v : V} {d : PyData} {ns : List Int} (r : Rp B H v d) (h : keyP d = some ns) : ∃ b, v = .ref b ∧ H b = some (.tup ((kI ns).map kV)) := by
  obtain ⟨xs, rfl, e⟩ := keyP_some h
  cases r with
  | @tup a vs _ h1 n1 r1 =>
    refine ⟨a, rfl, ?_⟩
    rw [kI_kV, ← r1.ints e]
    exact h1

/-! ### {k: v for ..} of tuple keys -/
section
variable {X : Cx} {W : WX} {e e1 e2 e3 tg iter kx vx : Expr} {es ifs : List Expr} {f g k v : Ex} {l it : Ls} {pos p : Pos} {i : Nat} {t : Ts} {ts us : List Nat} {γ : Tg} {scope : Scope} {own : List (Str × Nat)}
theorem tDcP_of {vs : List Nat} (hts : ∀ j ∈ ts, j ∈ vs) (σ : L2.St) (H : Hp) (Q : VK) (s : tR X.K X.mg W (rDcP it γ t k v vs) σ H Q) :
    tFrzE (tDcT (tI X.K X.mg W it) (tG X.K X.mg W ts γ) (tT X.K X.mg W t) (tE X.K X.mg W k) (tE X.K X.mg W v) vs) σ H Q := by
  obtain ⟨F, R, A, ρ, rel, s⟩ := s
  refine ⟨F, R, A, ρ, rel, sat_mono (sat_bind s) fun xs ρ1 s1 A1 J H1 p1 rel1 wk D hD => ?_⟩
  have h0 : F.H0 D = none := (rel1.fresh hD).2
  have hRR : ∀ a, (R a ∨ a = D) → R a ∨ H1 a = none := fun a z => z.imp_right fun q => by rw [q]; exact hD
  have hup : ∀ a, R a → R a ∨ a = D := fun a z => .inl z
  generalize hP : (fun (kvs : List (List Int × PyData)) (ρ2 : En) => sat (WW X.K X.mg W F R) (fun sv ρ' => ∀ A' l v H', Stp A H A' H' → Rel X.K X.mg F (fun a => R a ∨ a ∈ l) A' ρ' σ H' → (∀ a ∈ l, ¬ R a ∧ F.H0 a = none ∧ H a = none) → l.Nodup →
    RepS X.K X.mg (Bd (fun a => R a ∨ a ∈ l) A') H' l v sv → Q v H') (Out.ok (SV.dP kvs) (backE ρ1 ρ2 vs))) = P at *
  have s1' : sat (WW X.K X.mg W F R) P (dcpGo γ t k v vs xs [] (wipeE ρ1 vs)) := by
    rw [← hP]
    exact sat_bind s1
  refine ⟨fun i m Hc => m = xs.length - i ∧ i ≤ xs.length ∧ ∃ ρb A' acc wa, sat (WW X.K X.mg W F R) P (dcpGo γ t k v vs (xs.drop i) acc (wipeE ρb vs)) ∧ Rel X.K X.mg F (fun a => R a ∨ a = D) A' (wipeE ρb vs) (L2.wipe σ vs) Hc ∧ Hc D = some (.dT wa) ∧
    Paired (PK (Bd (fun a => R a ∨ a = D) A') Hc) wa acc ∧ Stp A1 H1 A' Hc, ⟨xs.length, rfl, Nat.zero_le _, ρ1, A1, [], [], s1', (rel1.guard hD).wipe vs, upd_same, .nil, (Ex0.new hD).stp⟩, ?_⟩
  rintro i m Hc ⟨rfl, hi, ρb, A', acc, wa, s2, rel2, hDc, ra, p2⟩
  obtain ⟨wstop, wgo⟩ := wk (fun a => R a ∨ a = D) A' Hc hRR (fun a z => ⟨rel2.dom a z, rel2.nt a z⟩) p2 i
  by_cases hlt : i < xs.length
  · right
    obtain ⟨jgo, jy⟩ := wgo xs[i] (by simp [hlt])
    refine ⟨jgo, fun Hn => ∃ ρb A' acc wa, sat (WW X.K X.mg W F R) P (dcpGo γ t k v vs (xs.drop (i + 1)) acc (wipeE ρb vs)) ∧ Rel X.K X.mg F (fun a => R a ∨ a = D) A' (wipeE ρb vs) (L2.wipe σ vs) Hn ∧ Hn D = some (.dT wa) ∧
      Paired (PK (Bd (fun a => R a ∨ a = D) A') Hn) wa acc ∧ Stp A1 H1 A' Hn, fun Hn q => ⟨xs.length - (i + 1), by omega, rfl, hlt, q⟩, fun x H2 y => ?_⟩
    obtain ⟨x2, rx⟩ := jy x H2 y
    rw [List.drop_eq_getElem_cons hlt] at s2
    have keepD : ∀ {A3 : Nat → List Addr} {H3 : Hp}, Stp A' Hc A3 H3 → H3 D = some (.dT wa) := fun p3 => (p3.back hDc fun j z => rel2.sep j D z (.inr rfl)).1
    have keepR : ∀ {A3 : Nat → List Addr} {H3 : Hp}, Stp A' Hc A3 H3 → Paired (PK (Bd (fun a => R a ∨ a = D) A3) H3) wa acc := fun p3 => Paired.mapP ra fun _ _ z => ⟨z.1, z.2.stp p3⟩
    refine ⟨F, _, A', _, _, rel2.grow x2, rx, sat_up hup (sat_bind s2) fun _ ρ3 s3 A3 σ3 H3 p3 rel3 w3 => ?_⟩
    have w3' : L2.wipe σ3 vs = L2.wipe σ vs := (w3.wipe hts).trans (wipe_idem σ vs)
    refine ⟨w3', F, _, A3, ρ3, rel3, sat_up hup (sat_bind s3) fun bb ρ4 s4 A4 H4 p4 rel4 => ?_⟩
    have q4 : Stp A' Hc A4 H4 := (x2.stp.trans p3).trans p4
    cases bb with
    | false =>
      refine ⟨ρ4, A4, acc, wa, s4, ?_, keepD q4, keepR q4, p2.trans q4⟩
      rw [← w3']
      exact rel4.wipe vs
    | true =>
      refine ⟨F, _, A4, ρ4, rel4, sat_up hup (sat_bind s4) fun kd ρ5 s5 A5 v5 H5 p5 rel5 r5 => ?_⟩
      refine ⟨F, _, A5, ρ5, rel5, sat_up hup (sat_bind s5) fun vd ρ6 s6 A6 v6 H6 p6 rel6 r6 => ?_⟩
      have q6 : Stp A' Hc A6 H6 := (q4.trans p5).trans p6
      split at s6
      · rename_i ns hk
        by_cases hz : acc.length < maxSeq
        · rw [if_pos hz] at s6
          obtain ⟨b, rfl, hb⟩ := (r5.stp p6).key hk
          refine ⟨wa, kI ns, b, rfl, hb, keepD q6, by rw [Paired.length ra]; exact hz, ρ6, A6, putKV ns vd acc, putK wa (kI ns) v6, s6, ?_, upd_same, ?_, (p2.trans q6).updNew hD⟩
          · rw [← w3']
            exact (rel6.wipe vs).writeR (.inr rfl) h0
          · refine Paired.mapP (repKP_put (keepR q6) r6) fun _ _ z => ⟨z.1, z.2.imp (fun _ z => z) fun a u ea n => ?_⟩
            rw [upd_ne (fun (z : a = D) => n (.inl (.inr z)))]
            exact ea
        · rw [if_neg hz] at s6
          exact s6.elim
      · exact s6.elim
  · left
    have e : i = xs.length := by omega
    subst e
    refine ⟨wstop (Nat.le_refl _), ?_⟩
    rw [List.drop_length] at s2
    have s3 : P acc (wipeE ρb vs) := s2
    rw [← hP] at s3
    obtain ⟨A2, sb, rel3⟩ := rel1.back hRR p2 rel2.unwipe vs
    refine ⟨D, .dT wa, rfl, hDc, trivial, fun od => ?_⟩
    have nD : ∀ j, D ∉ A2 j := fun j z => rel3.sep j D z (.inr rfl)
    have nR : ¬ R D := fun z => rel1.dom D (.inl z) hD
    have rel4 : Rel X.K X.mg F R A2 (backE ρ1 (wipeE ρb vs) vs) σ (upd Hc D (.frz od (.dT wa))) := (rel3.writeR (.inr rfl) h0).less fun a z => .inl z
    have en : ∀ B : Addr → Prop, (fun a => B a ∨ a ∈ ([] : List Addr)) = B := fun B => by funext a; simp
    refine s3 A2 [] _ _ ((p1.trans (p2.trans (.sub sb))).updNew (stp_none p1 hD)) (by rw [en]; exact rel4) (fun a z => nomatch z) List.nodup_nil ?_
    rw [en]
    refine ⟨D, od, wa, rfl, upd_same, fun z => z.elim nR fun ⟨j, q⟩ => nD j q, Paired.mapP ra fun _ _ z => ⟨z.1, ?_⟩⟩
    have q := z.2.sub sb
    refine q.imp (fun a z => z.elim (fun z => .inl (.inl z)) .inr) fun a u ea n => ?_
    rw [upd_ne (fun (z : a = D) => n (.inl (.inr z)))]
    exact ea
theorem r_dcP (hu : X.A.units + 1 < cLine) (hc : X.calm = true) (hN : X.N.Nodup) (hi : PI X tg iter (tI X.K X.mg W it)) (ok : BlkOk X.N X.env.scope scope own) (hts : ∀ j ∈ ts, j ∈ own.map (·.2))
    (hg : ∀ (s : Shared) (H : Hp) (C : Addr) (cl : List (Str × Addr)) (fp : List Addr), PG (X.blk s H scope (compEnvC scope cl C X.env) fp) tg (tG X.K X.mg W ts γ)) (ht : ∀ (s : Shared) (H : Hp) (C : Addr) (cl : List (Str × Addr)) (fp : List Addr), PTs (X.blk s H scope (compEnvC scope cl C X.env) fp) ifs (tT X.K X.mg W t))
    (hk : ∀ (s : Shared) (H : Hp) (C : Addr) (cl : List (Str × Addr)) (fp : List Addr), PE (X.blk s H scope (compEnvC scope cl C X.env) fp) kx (tE X.K X.mg W k))
    (he : ∀ (s : Shared) (H : Hp) (C : Addr) (cl : List (Str × Addr)) (fp : List Addr), PE (X.blk s H scope (compEnvC scope cl C X.env) fp) vx (tE X.K X.mg W v)) (hs : ∀ x, foldedSetIterable iter X.env x = pure x := by intro _; rfl) :
    PE X (.DictComp kx vx [⟨tg, iter, ifs, 0⟩] scope pos) (tR X.K X.mg W (rDcP it γ t k v (own.map (·.2)))) := PE.imp (pe_frz (pe_dcT hu hc hN hi ok hg ht hk he hs)) (tDcP_of hts)

/-! ### such a dict, looked at -/
theorem tInP_of {neg : Bool} {td : TE} (htd : td = tVar i) (σ : L2.St) (H : Hp) (Q : VK) (s : tE X.K X.mg W (cInP neg f i) σ H Q) : (if neg = true then tDNotIn (tE X.K X.mg W f) td else tDIn (tE X.K X.mg W f) td) σ H Q := by
  subst htd
  obtain ⟨F, R, A, ρ, rel, s⟩ := s
  have key : tE X.K X.mg W f σ H fun y H1 => ∃ x : V, σ[i]? = some (some x) ∧ ∃ a o, x = .ref a ∧ DGet H1 a y o ∧ Q (.bl (o.isSome != neg)) H1 := by
    refine ⟨F, R, A, ρ, rel, sat_mono (sat_bind s) fun d ρ1 s1 A1 y H1 p1 rel1 r1 => ?_⟩
    split at s1
    · rename_i ns kvs hk e1
      obtain ⟨x, ex, a, o, ws, rfl, hH, hn, rk⟩ := rel1.sl i _ e1
      obtain ⟨b, rfl, hb⟩ := r1.key hk
      refine ⟨_, ex, a, valV ws (kI ns), rfl, .inr ⟨ws, kI ns, b, .inr ⟨o, hH⟩, rfl, hb, rfl⟩, ?_⟩
      rw [repKP_look rk]
      exact s1 A1 _ H1 p1 rel1 (.bl _)
    · exact s1.elim
  cases neg with
  | true =>
    rw [if_pos rfl]
    obtain ⟨F, R, A, ρ, rel, s⟩ := key
    refine ⟨F, R, A, ρ, rel, sat_mono s fun d ρ1 s1 A1 y H1 p1 rel1 r1 => ?_⟩
    obtain ⟨x, ex, a, o, rfl, g, q⟩ := s1 A1 y H1 p1 rel1 r1
    exact ⟨_, ex, a, o, rfl, g, by rw [Bool.bne_true] at q; exact q⟩
  | false =>
    rw [if_neg (by decide)]
    obtain ⟨F, R, A, ρ, rel, s⟩ := key
    refine ⟨F, R, A, ρ, rel, sat_mono s fun d ρ1 s1 A1 y H1 p1 rel1 r1 => ?_⟩
    obtain ⟨x, ex, a, o, rfl, g, q⟩ := s1 A1 y H1 p1 rel1 r1
    exact ⟨_, ex, a, o, rfl, g, by rw [Bool.bne_false] at q; exact q⟩
theorem d_inP (hu : X.A.units + 1 < cLine) (h1 : PE X e1 (tE X.K X.mg W f)) (h2 : PE X e2 (tVar i)) (hm : behindInMarks .In e2 = false) : PE X (.Compare e1 [.In] [e2] pos) (tE X.K X.mg W (cInP false f i)) := PE.imp (pe_cmp (pc_din hu h1 h2) hm) fun σ H Q s => tInP_of rfl σ H Q s
theorem d_notInP (hu : X.A.units + 1 < cLine) (h1 : PE X e1 (tE X.K X.mg W f)) (h2 : PE X e2 (tVar i)) (hm : behindInMarks .NotIn e2 = false) : PE X (.Compare e1 [.NotIn] [e2] pos) (tE X.K X.mg W (cInP true f i)) := PE.imp (pe_cmp (pc_dnotin hu h1 h2) hm) fun σ H Q s => tInP_of rfl σ H Q s
theorem dt_inP (hu : X.A.units + 1 < cLine) (h1 : PE X e1 (tE X.K X.mg W f)) (h2 : PE X e2 (tVar i)) (hm : behindInMarks .In e2 = false) : PT X (.Compare e1 [.In] [e2] pos) (tT X.K X.mg W (tD (cInP false f i))) := PT.imp (pt_cmp (pc_din hu h1 h2) hm) (tB_of fun σ H Q s => tInP_of rfl σ H Q s)
theorem dt_notInP (hu : X.A.units + 1 < cLine) (h1 : PE X e1 (tE X.K X.mg W f)) (h2 : PE X e2 (tVar i)) (hm : behindInMarks .NotIn e2 = false) : PT X (.Compare e1 [.NotIn] [e2] pos) (tT X.K X.mg W (tD (cInP true f i))) := PT.imp (pt_cmp (pc_dnotin hu h1 h2) hm) (tB_of fun σ H Q s => tInP_of rfl σ H Q s)
theorem paired_get {α β : Type} {P : α → β → Prop} : ∀ {xs : List α} {ys : List β} {n : Nat} {y : β}, Paired P xs ys → ys[n]? = some y → ∃ x, xs[n]? = some x ∧ P x y
  | _, _, n, _, .nil, h => by simp at h
  | _, _, 0, _, .cons h _, e => by simp at e; subst e; exact ⟨_, rfl, h⟩
  | _, _, n + 1, _, .cons _ t, e => by
    obtain ⟨x, e1, q⟩ := paired_get (n := n) t (by simpa using e)
    exact ⟨x, by simpa using e1, q⟩
theorem i_keysP (h1 : PE X e (tVar i)) : PI X tg e (tI X.K X.mg W (iKeysP i)) := PI.imp (pi_keys h1) fun σ H Q ⟨F, R, A, ρ, rel, s⟩ => by
  unfold iKeysP at s
  split at s
  · rename_i kvs e1
    obtain ⟨x, ex, a, o, ws, rfl, hH, hn, rk⟩ := rel.sl i _ e1
    refine ⟨_, ex, a, o, rfl, .inr ⟨ws, hH, s A _ H (.refl A H) rel fun R' A' H' hR hd p' j => ?_⟩⟩
    have q := p'.back hH fun i z => hn (.inr ⟨i, z⟩)
    refine ⟨fun hj => ⟨q.1, by rw [List.length_map] at hj; rw [Paired.length rk]; exact hj⟩, fun d ed => ?_⟩
    rw [List.getElem?_map, Option.map_eq_some_iff] at ed
    obtain ⟨kv, e2, rfl⟩ := ed
    obtain ⟨w, e3, ek, rv⟩ := paired_get rk e2
    refine ⟨⟨q.1, (List.getElem?_eq_some_iff.mp e3).1⟩, fun y H2 yl => ?_⟩
    obtain ⟨rfl, k, v, b, e4, rfl, hb⟩ := yl
    rw [e3] at e4
    cases e4
    refine ⟨.refl _, ?_⟩
    have hb' : H2 b = some (.tup (kv.1.map V.int)) := by
      have ek' : k = kI kv.1 := ek
      rw [hb, ek', kI_kV]
    exact .tup hb' (fun z => (hd b z).2 _ hb') (rpAll_ints kv.1)
  · exact s.elim
end
end Mo
end
section
set_option autoImplicit false
set_option linter.all false
set_option Elab.async false
set_option maxHeartbeats 1000000
/-! MD2: dicts of ints to new lists. -/
namespace Mo
open PySem PySem.Spec L2

section
variable {B : Addr → Prop} {H : Hp}
theorem inl_dec {j k : Int} : decide ((Sum.inl j : Key) = Sum.inl k) = decide (j = k) := by
  by_cases e : j = k
  · rw [e]; simp
  · rw [decide_eq_false e, decide_eq_false (fun z => e (by cases z; rfl))]
theorem repKL_any {k : Int} : ∀ {ws : List (Key × V)} {as : List Addr} {kvs : List (Int × List PyData)}, RepKL B H ws as kvs → (ws.any fun kv => decide (kv.1 = Sum.inl k)) = (look k kvs).isSome
  | _, _, _, .nil => rfl
  | _, _, _, .cons (k := j) h r t => by
    unfold look
    rw [List.any_cons, List.find?_cons, inl_dec]
    by_cases e : j = k
    · simp [e]
    · simp only [decide_eq_false e, Bool.false_or]
      exact repKL_any t
theorem repKL_look {k : Int} {xs : List PyData} : ∀ {ws : List (Key × V)} {as : List Addr} {kvs : List (Int × List PyData)}, RepKL B H ws as kvs → look k kvs = some xs → ∃ b vs, valV ws (Sum.inl k) = some (.ref b) ∧ b ∈ as ∧ H b = some (.lst vs) ∧ RpAll B H vs xs
  | _, _, _, .nil, h => by cases h
  | _, _, _, .cons (k := j) (a := a) (vs := vs) h r t, hl => by
    unfold look at hl
    rw [List.find?_cons] at hl
    unfold valV
    rw [List.find?_cons, inl_dec]
    by_cases e : j = k
    · simp only [decide_eq_true e] at hl ⊢
      cases hl
      exact ⟨a, vs, rfl, List.mem_cons_self, h, r⟩
    · simp only [decide_eq_false e] at hl ⊢
      obtain ⟨b, us, h1, h2, h3, h4⟩ := repKL_look t hl
      exact ⟨b, us, h1, List.mem_cons_of_mem _ h2, h3, h4⟩
theorem RepKL.snoc {k : Int} {a : Addr} {vs : List V} {ds : List PyData} (h : H a = some (.lst vs)) (r : RpAll B H vs ds) : ∀ {ws : List (Key × V)} {as : List Addr} {kvs : List (Int × List PyData)}, RepKL B H ws as kvs → RepKL B H (ws ++ [(Sum.inl k, .ref a)]) (as ++ [a]) (kvs ++ [(k, ds)])
  | _, _, _, .nil => .cons h r .nil
  | _, _, _, .cons h' r' t => .cons h' r' (RepKL.snoc h r t)
/-- one list is written -/
theorem repKL_mem {k : Int} {b : Addr} {ws : List (Key × V)} {as : List Addr} {kvs : List (Int × List PyData)} (t : RepKL B H ws as kvs) : valV ws (Sum.inl k) = some (.ref b) → b ∈ as := by
  induction t with
  | nil => intro z; cases z
  | @cons j a vs ds ws as rest h r t ih =>
    intro z
    unfold valV at z
    rw [List.find?_cons, inl_dec] at z
    by_cases e : j = k
    · simp only [decide_eq_true e] at z
      cases z
      exact List.mem_cons_self
    · simp only [decide_eq_false e] at z
      exact List.mem_cons_of_mem _ (ih z)
theorem repKL_upd {k : Int} {b : Addr} {us : List V} {ys : List PyData} (hy : RpAll B (upd H b (.lst us)) us ys) (hB : B b) {ws : List (Key × V)} {as : List Addr} {kvs : List (Int × List PyData)} (t : RepKL B H ws as kvs) : as.Nodup → valV ws (Sum.inl k) = some (.ref b) →
    RepKL B (upd H b (.lst us)) ws as (setL k ys kvs) := by
  have other : ∀ c o, H c = some o → ¬ B c → upd H b (.lst us) c = some o := fun c o e n => by
    rw [upd_ne (fun (z : c = b) => n (by rw [z]; exact hB))]
    exact e
  induction t with
  | nil => intro _ z; cases z
  | @cons j a vs ds ws as rest h r t ih =>
    intro nd hv
    have hna := (List.nodup_cons.mp nd).1
    unfold setL
    unfold valV at hv
    rw [List.find?_cons, inl_dec] at hv
    by_cases e : j = k
    · simp only [decide_eq_true e] at hv
      rw [if_pos (show (j, ds).1 = k from e)]
      have hab : a = b := by cases hv; rfl
      subst hab
      refine .cons upd_same hy (RepKL.imp (fun _ z => z) other (fun c hc o e => ?_) t)
      rw [upd_ne (fun (z : c = a) => hna (by rw [← z]; exact hc))]
      exact e
    · simp only [decide_eq_false e] at hv
      rw [if_neg (show ¬ (j, ds).1 = k from e)]
      refine .cons ?_ (r.imp (fun _ z => z) other) (ih (List.nodup_cons.mp nd).2 hv)
      rw [upd_ne (fun (z : a = b) => hna (by rw [z]; exact repKL_mem t hv))]
      exact h
/-- the lists as data -/
theorem RepKL.frz {B' : Addr → Prop} (hB : ∀ a, B' a → B a) : ∀ {ws : List (Key × V)} {as : List Addr} {kvs : List (Int × List PyData)}, (∀ a ∈ as, ¬ B' a) → RepKL B H ws as kvs → RepKI B' H ws (frzL kvs)
  | _, _, _, _, .nil => .nil
  | _, _, _, n, .cons h r t => .cons ⟨rfl, .lst h (n _ List.mem_cons_self) (r.imp hB fun _ _ e _ => e)⟩ (RepKL.frz hB (fun a ha => n a (List.mem_cons_of_mem _ ha)) t)
theorem repKI_look {k : Int} {d : PyData} : ∀ {ws : List (Key × V)} {kvs : List (Int × PyData)}, RepKI B H ws kvs → look k kvs = some d → ∃ v, valV ws (Sum.inl k) = some v ∧ Rp B H v d
  | _, _, .nil, h => by cases h
  | p :: ws, q :: kvs, .cons h t, hl => by
    unfold look at hl
    rw [List.find?_cons] at hl
    unfold valV
    rw [List.find?_cons, h.1, inl_dec]
    by_cases e : q.1 = k
    · simp only [decide_eq_true e] at hl ⊢
      cases hl
      exact ⟨_, rfl, h.2⟩
    · simp only [decide_eq_false e] at hl ⊢
      exact repKI_look t hl
end
section
variable {X : Cx} {W : WX} {e e1 e2 e3 tg iter kx vx : Expr} {es ifs : List Expr} {f g k : Ex} {l it v : Ls} {pos p apos : Pos} {i : Nat} {t : Ts} {ts us : List Nat} {γ : Tg} {scope : Scope} {own : List (Str × Nat)}
theorem tDcL_of {vs : List Nat} (hts : ∀ j ∈ ts, j ∈ vs) (σ : L2.St) (H : Hp) (Q : VK) (s : tR X.K X.mg W (rDcL it γ k v vs) σ H Q) :
    tFrzE (tDc (tI X.K X.mg W it) (tG X.K X.mg W ts γ) (tT X.K X.mg W Mo.tYes) (tE X.K X.mg W k) (tN X.K X.mg W v) vs) σ H Q := by
  obtain ⟨F, R, A, ρ, rel, s⟩ := s
  refine ⟨F, R, A, ρ, rel, sat_mono (sat_bind s) fun xs ρ1 s1 A1 J H1 p1 rel1 wk D hD => ?_⟩
  have h0 : F.H0 D = none := (rel1.fresh hD).2
  have hup : ∀ {la : List Addr}, ∀ a, R a → (R a ∨ a = D) ∨ a ∈ la := fun a z => .inl (.inl z)
  generalize hP : (fun (kvs : List (Int × List PyData)) (ρ2 : En) => sat (WW X.K X.mg W F R) (fun sv ρ' => ∀ A' l v H', Stp A H A' H' → Rel X.K X.mg F (fun a => R a ∨ a ∈ l) A' ρ' σ H' → (∀ a ∈ l, ¬ R a ∧ F.H0 a = none ∧ H a = none) → l.Nodup →
    RepS X.K X.mg (Bd (fun a => R a ∨ a ∈ l) A') H' l v sv → Q v H') (Out.ok (SV.dL kvs) (backE ρ1 ρ2 vs))) = P at *
  have s1' : sat (WW X.K X.mg W F R) P (dclGo γ k v vs xs [] (wipeE ρ1 vs)) := by
    rw [← hP]
    exact sat_bind s1
  have e0 : (fun a => (R a ∨ a = D) ∨ a ∈ ([] : List Addr)) = fun a => R a ∨ a = D := by funext a; simp
  refine ⟨fun i m Hc => m = xs.length - i ∧ i ≤ xs.length ∧ ∃ ρb A' acc wa la, sat (WW X.K X.mg W F R) P (dclGo γ k v vs (xs.drop i) acc (wipeE ρb vs)) ∧ Rel X.K X.mg F (fun a => (R a ∨ a = D) ∨ a ∈ la) A' (wipeE ρb vs) (L2.wipe σ vs) Hc ∧ Hc D = some (.dK wa) ∧
    RepKL (Bd (fun a => (R a ∨ a = D) ∨ a ∈ la) A') Hc wa la acc ∧ (∀ a ∈ la, H1 a = none ∧ a ≠ D ∧ ¬ R a ∧ F.H0 a = none) ∧ la.Nodup ∧ Stp A1 H1 A' Hc,
    ⟨xs.length, rfl, Nat.zero_le _, ρ1, A1, [], [], [], s1', by rw [e0]; exact (rel1.guard hD).wipe vs, upd_same, .nil, (fun a z => nomatch z), List.nodup_nil, (Ex0.new hD).stp⟩, ?_⟩
  rintro i m Hc ⟨rfl, hi, ρb, A', acc, wa, la, s2, rel2, hDc, ra, hla, nd, p2⟩
  have hRR : ∀ a, ((R a ∨ a = D) ∨ a ∈ la) → R a ∨ H1 a = none := fun a z => by
    rcases z with (z | z) | z
    · exact .inl z
    · exact .inr (by rw [z]; exact hD)
    · exact .inr (hla a z).1
  obtain ⟨wstop, wgo⟩ := wk (fun a => (R a ∨ a = D) ∨ a ∈ la) A' Hc hRR (fun a z => ⟨rel2.dom a z, rel2.nt a z⟩) p2 i
  by_cases hlt : i < xs.length
  · right
    obtain ⟨jgo, jy⟩ := wgo xs[i] (by simp [hlt])
    refine ⟨jgo, fun Hn => ∃ ρb A' acc wa la, sat (WW X.K X.mg W F R) P (dclGo γ k v vs (xs.drop (i + 1)) acc (wipeE ρb vs)) ∧ Rel X.K X.mg F (fun a => (R a ∨ a = D) ∨ a ∈ la) A' (wipeE ρb vs) (L2.wipe σ vs) Hn ∧ Hn D = some (.dK wa) ∧
      RepKL (Bd (fun a => (R a ∨ a = D) ∨ a ∈ la) A') Hn wa la acc ∧ (∀ a ∈ la, H1 a = none ∧ a ≠ D ∧ ¬ R a ∧ F.H0 a = none) ∧ la.Nodup ∧ Stp A1 H1 A' Hn, fun Hn q => ⟨xs.length - (i + 1), by omega, rfl, hlt, q⟩, fun x H2 y => ?_⟩
    obtain ⟨x2, rx⟩ := jy x H2 y
    rw [List.drop_eq_getElem_cons hlt] at s2
    have keepD : ∀ {A3 : Nat → List Addr} {H3 : Hp}, Stp A' Hc A3 H3 → H3 D = some (.dK wa) := fun p3 => (p3.back hDc fun j z => rel2.sep j D z (.inl (.inr rfl))).1
    refine ⟨F, _, A', _, _, rel2.grow x2, rx, sat_up hup (sat_bind s2) fun _ ρ3 s3 A3 σ3 H3 p3 rel3 w3 => ?_⟩
    have w3' : L2.wipe σ3 vs = L2.wipe σ vs := (w3.wipe hts).trans (wipe_idem σ vs)
    refine ⟨w3', F, _, A3, ρ3, rel3, ?_⟩
    intro A4 H4 p4 rel4
    show tE X.K X.mg W k σ3 H4 _
    refine ⟨F, _, A4, ρ3, rel4, sat_up hup (sat_bind s3) fun kd ρ5 s5 A5 v5 H5 p5 rel5 r5 => ?_⟩
    refine ⟨F, _, A5, ρ5, rel5, sat_up hup (sat_bind s5) fun ds ρ6 s6 A6 q us H6 p6 rel6 hn hq hq0 hl r6 => ?_⟩
    have q5 : Stp A' Hc A5 H5 := (((x2.stp.trans p3).trans p4).trans p5)
    have q6 : Stp A' Hc A6 H6 := q5.trans p6
    cases r5 with
    | int z =>
      have s6' : sat (WW X.K X.mg W F R) P (if acc.length < maxSeq ∧ (look z acc).isSome = false then dclGo γ k v vs (xs.drop (i + 1)) (acc ++ [(z, ds)]) (wipeE ρ6 vs) else .stuck) := s6
      by_cases hz : acc.length < maxSeq ∧ (look z acc).isSome = false
      · rw [if_pos hz] at s6'
        have hlen : ∀ {ws : List (Key × V)} {as : List Addr} {kvs : List (Int × List PyData)} {B : Addr → Prop} {H : Hp}, RepKL B H ws as kvs → ws.length = kvs.length := fun t => by
          induction t with
          | nil => rfl
          | cons _ _ _ ih => exact congrArg Nat.succ ih
        have hqD : q ≠ D := fun z => hn (.inl (by rw [z]; exact .inl (.inr rfl)))
        have hqR : ¬ R q := fun z => hn (.inl (.inl (.inl z)))
        have hqla : q ∉ la := fun z => hn (.inl (.inr z))
        have hq1 : H1 q = none := stp_none (p2.trans q5) hq
        have pk : putK wa (Sum.inl z) (V.ref q) = wa ++ [(Sum.inl z, .ref q)] := by
          unfold putK
          rw [repKL_any ra, hz.2]
          rfl
        have conv : ∀ a, ((R a ∨ a = D) ∨ a ∈ la ++ [q]) → ((R a ∨ a = D) ∨ a ∈ la) ∨ a = q := fun a z => by
          rcases z with z | z
          · exact .inl (.inl z)
          · rcases List.mem_append.mp z with z | z
            · exact .inl (.inr z)
            · exact .inr (by simpa using z)
        refine ⟨wa, Sum.inl z, rfl, keepD q6, by rw [hlen ra]; exact hz.1, ρ6, A6, acc ++ [(z, ds)], wa ++ [(Sum.inl z, .ref q)], la ++ [q], s6', ?_, by rw [pk]; exact upd_same, ?_, fun a ha => ?_, ?_, (p2.trans q6).updNew hD⟩
        · rw [← w3', pk]
          exact ((rel6.less conv).wipe vs).writeR (.inl (.inr rfl)) h0
        · have ra6 : RepKL (Bd (fun a => ((R a ∨ a = D) ∨ a ∈ la) ∨ a = q) A6) H6 wa la acc := by
            have ra5 : RepKL (Bd (fun a => (R a ∨ a = D) ∨ a ∈ la) A5) H5 wa la acc := RepKL.keyed (stp_key (fun a z => .inl z) q5) (fun a ha o e => (q5.back e fun j z => rel2.sep j a z (.inr ha)).1) ra
            exact RepKL.keyed (stp_key (fun a z => z.imp_right fun w => by rw [w]; exact hq) p6) (fun a ha o e => (p6.back e fun j z => rel5.sep j a z (.inr ha)).1) ra5
          have all : RepKL (Bd (fun a => (R a ∨ a = D) ∨ a ∈ la ++ [q]) A6) H6 (wa ++ [(Sum.inl z, .ref q)]) (la ++ [q]) (acc ++ [(z, ds)]) :=
            RepKL.imp (fun a z => z.elim (fun z => .inl (conv a z)) .inr) (fun _ _ e _ => e) (fun _ _ _ e => e) (RepKL.snoc hl r6 ra6)
          refine RepKL.imp (fun _ z => z) (fun a u ea n => ?_) (fun a ha u ea => ?_) all
          · rw [upd_ne (fun (z : a = D) => n (.inl (.inl (.inr z))))]
            exact ea
          · rw [upd_ne (fun (z : a = D) => ?_)]
            · exact ea
            · rcases List.mem_append.mp ha with w | w
              · exact (hla a w).2.1 z
              · exact hqD (by rw [← z]; exact (List.mem_singleton.mp w).symm)
        · rcases List.mem_append.mp ha with w | w
          · exact hla a w
          · have e : a = q := by simpa using w
            subst e
            exact ⟨hq1, hqD, hqR, hq0⟩
        · rw [List.nodup_append]
          exact ⟨nd, by simp, fun a ha b hb e => by
            have hb' : b = q := by simpa using hb
            exact hqla (by rw [← hb', ← e]; exact ha)⟩
      · rw [if_neg hz] at s6'
        exact s6'.elim
    | _ => exact s6.elim
  · left
    have e : i = xs.length := by omega
    subst e
    refine ⟨wstop (Nat.le_refl _), ?_⟩
    rw [List.drop_length] at s2
    have s3 : P acc (wipeE ρb vs) := s2
    rw [← hP] at s3
    obtain ⟨A2, sb, rel3⟩ := rel1.back hRR p2 rel2.unwipe vs
    refine ⟨D, .dK wa, rfl, hDc, trivial, fun od => ?_⟩
    have nD : ∀ j, D ∉ A2 j := fun j z => rel3.sep j D z (.inl (.inr rfl))
    have nR : ¬ R D := fun z => rel1.dom D (.inl z) hD
    have conv : ∀ a, (R a ∨ a ∈ la) → (R a ∨ a = D) ∨ a ∈ la := fun a z => z.imp .inl id
    have rel4 : Rel X.K X.mg F (fun a => R a ∨ a ∈ la) A2 (backE ρ1 (wipeE ρb vs) vs) σ (upd Hc D (.frz od (.dK wa))) := (rel3.writeR (.inl (.inr rfl)) h0).less conv
    refine s3 A2 la _ _ ((p1.trans (p2.trans (.sub sb))).updNew (stp_none p1 hD)) rel4 (fun a z => ⟨(hla a z).2.2.1, (hla a z).2.2.2, stp_none p1 (hla a z).1⟩) nd ?_
    refine ⟨D, od, wa, rfl, upd_same, fun z => ?_, ?_⟩
    · rcases z with (z | z) | ⟨j, z⟩
      · exact nR z
      · exact (hla D z).2.1 rfl
      · exact nD j z
    · refine RepKL.imp (B := Bd (fun a => (R a ∨ a = D) ∨ a ∈ la) A2) (fun a z => z.elim (fun z => .inl (conv a z)) .inr) (fun a u ea n => ?_) (fun a ha u ea => ?_) (RepKL.imp (Bd.sub sb) (fun _ _ e _ => e) (fun _ _ _ e => e) ra)
      · rw [upd_ne (fun (z : a = D) => n (.inl (.inl (.inr z))))]
        exact ea
      · rw [upd_ne (fun (z : a = D) => (hla a ha).2.1 z)]
        exact ea
theorem r_dcL (hc : X.calm = true) (hN : X.N.Nodup) (hi : PI X tg iter (tI X.K X.mg W it)) (ok : BlkOk X.N X.env.scope scope own) (hts : ∀ j ∈ ts, j ∈ own.map (·.2))
    (hg : ∀ (s : Shared) (H : Hp) (C : Addr) (cl : List (Str × Addr)) (fp : List Addr), PG (X.blk s H scope (compEnvC scope cl C X.env) fp) tg (tG X.K X.mg W ts γ)) (ht : ∀ (s : Shared) (H : Hp) (C : Addr) (cl : List (Str × Addr)) (fp : List Addr), PTs (X.blk s H scope (compEnvC scope cl C X.env) fp) ifs (tT X.K X.mg W Mo.tYes))
    (hk : ∀ (s : Shared) (H : Hp) (C : Addr) (cl : List (Str × Addr)) (fp : List Addr), PE (X.blk s H scope (compEnvC scope cl C X.env) fp) kx (tE X.K X.mg W k))
    (he : ∀ (s : Shared) (H : Hp) (C : Addr) (cl : List (Str × Addr)) (fp : List Addr), PE (X.blk s H scope (compEnvC scope cl C X.env) fp) vx (tN X.K X.mg W v)) (hs : ∀ x, foldedSetIterable iter X.env x = pure x := by intro _; rfl) :
    PE X (.DictComp kx vx [⟨tg, iter, ifs, 0⟩] scope pos) (tR X.K X.mg W (rDcL it γ k v (own.map (·.2)))) := PE.imp (pe_frz (pe_dc hc hN hi ok hg ht hk he hs)) (tDcL_of hts)
end
end Mo
end
section
set_option autoImplicit false
set_option linter.all false
set_option Elab.async false
set_option maxHeartbeats 1000000
/-! MD3: dicts of lists: append, get. -/
namespace Mo
open PySem PySem.Spec L2
section
variable {X : Cx} {W : WX} {e e1 e2 e3 : Expr} {f g : Ex} {pos p p2 apos spos : Pos} {i : Nat}
theorem Rel.dl {K : PySem.W.Frag} {mg : Str → Option Value} {F : Fm} {R : Addr → Prop} {A : Nat → List Addr} {ρ : En} {σ : L2.St} {H : Hp} {kvs : List (Int × List PyData)} (h : Rel K mg F R A ρ σ H) (e : ρ[i]? = some (some (.dL kvs))) :
    ∃ a o ws, σ[i]? = some (some (.ref a)) ∧ H a = some (.frz o (.dK ws)) ∧ ¬ Bd R A a ∧ RepKL (Bd R A) H ws (A i) kvs := by
  obtain ⟨v, e1, a, o, ws, rfl, e2, n, r⟩ := h.sl i _ e
  exact ⟨a, o, ws, e1, e2, n, r⟩
theorem s_dlApp (hu : X.A.units + 1 < cLine) (hv : PE X e (tVar i)) (hi : PE X e1 (tE X.K X.mg W f)) (hns : NoSl e1) (h1 : PE X e2 (tE X.K X.mg W g))
    (hfew : ((backTo pos (starEach [e2] X.env)).all (fun x => !x.1) && (backToKw pos (keywordEach [] X.env)).all (fun x => x.1.isSome)
      && decide ([e2].length + ([] : List Keyword).length + (if ([] : List Keyword).isEmpty then 0 else 1) < 30)) = true)
    (hline : (apos.endLine == pos.line) = true) (hs : starEach [e2] X.env = (false, eval e2 X.env) :: starEach [] X.env) (hpl : (backTo pos (starEach [] X.env)).any (·.1) = false)
    (hbase : attributeBase (.Subscript e e1 spos) "append" X.env (eval (.Subscript e e1 spos) X.env) = eval (.Subscript e e1 spos) X.env) (hsw : swapsWith (.Call (.Attribute (.Subscript e e1 spos) "append" apos) [e2] [] pos) none p2.line X.env = pure false) :
    PS X (.Expr (.Call (.Attribute (.Subscript e e1 spos) "append" apos) [e2] [] pos) p2) (tS X.K X.mg W [] (sDLApp i f g)) :=
  PS.imp (ps_expr (pe_bm PySem.F.plainAttrs_list PySem.F.slot_list_append PySem.F.type_list_append mt_append (pe_dget hu hv hi hns) (pa_cons h1 pa_nil hs) hbase hfew hline hs hpl) hsw) fun D σ H ⟨F, R, A, ρ, rel, s⟩ => by
    unfold sDLApp at s
    split at s
    · rename_i kvs0 e0
      obtain ⟨a, o, ws, es, eh, hn, rk0⟩ := rel.dl e0
      refine ⟨_, es, F, R, A, ρ, rel, sat_mono (sat_bind s) fun kd ρ1 s1 A1 y H1 p1 rel1 r1 => ?_⟩
      split at s1
      · rename_i z kvs1 e1
        obtain ⟨a1, o1, ws1, es1, eh1, hn1, rk1⟩ := rel1.dl e1
        rw [es] at es1
        cases es1
        by_cases hk : (look z kvs1).isSome = true
        · rw [if_pos hk] at s1
          obtain ⟨xs1, hx1⟩ := Option.isSome_iff_exists.mp hk
          obtain ⟨b, vs1, hb1, hb2, hb3, hb4⟩ := repKL_look rk1 hx1
          cases r1
          refine ⟨a, .ref b, rfl, .inl ⟨ws1, Sum.inl z, .inr ⟨o1, eh1⟩, rfl, hb1.symm⟩, tyV_own hb3, F, R, A1, ρ1, rel1, sat_mono (sat_bind s1) fun d ρ2 s2 A2 y2 H2 p2 rel2 r2 => ?_⟩
          split at s2
          · rename_i kvs2 e2
            obtain ⟨a2, o2, ws2, es2, eh2, hn2, rk2⟩ := rel2.dl e2
            rw [es] at es2
            cases es2
            have ew := (p2.back eh1 fun i z => hn1 (.inr ⟨i, z⟩)).1
            rw [eh2] at ew
            cases ew
            split at s2
            · rename_i xs hx
              obtain ⟨b', vs, hb5, hb6, hb7, hb8⟩ := repKL_look rk2 hx
              rw [hb1] at hb5
              cases hb5
              by_cases hz : xs.length < maxSeq
              · rw [if_pos hz] at s2
                have hB : Bd R A2 b := .inr ⟨i, hb6⟩
                have hr : RpAll (Bd R A2) (upd H2 b (.lst (vs ++ [y2]))) (vs ++ [y2]) (xs ++ [d]) := (hb8.append (.cons r2 .nil)).imp (fun _ z => z) fun c u ec n => by
                  rw [upd_ne (fun (z : c = b) => n (by rw [z]; exact hB))]
                  exact ec
                have rel3 := rel2.write (o := .lst (vs ++ [y2])) (sv := .dL (setL z (xs ++ [d]) kvs2)) hb6 (fun _ z => nomatch z) (fun w hw => by
                  rw [es] at hw
                  cases hw
                  refine ⟨a, o1, ws1, rfl, ?_, hn2, repKL_upd hr hB rk2 (rel2.nd i) hb1⟩
                  rw [upd_ne (fun (z : a = b) => hn2 (by rw [z]; exact hB))]
                  exact eh2) ⟨_, e2⟩
                have p3 : Stp A2 H2 A2 (upd H2 b (.lst (vs ++ [y2]))) := ⟨Ext.write hb6, fun j c z => .inl ⟨j, z⟩⟩
                exact ⟨b, vs, y2, rfl, rfl, hb7, by rw [hb8.length]; exact hz, s2 A2 σ _ ((p1.trans p2).trans p3) rel3 .refl⟩
              · rw [if_neg hz] at s2
                exact s2.elim
            · exact s2.elim
          · exact s2.elim
        · rw [if_neg hk] at s1
          exact s1.elim
      · exact s1.elim
    · exact s.elim
theorem Rel.frzE {K : PySem.W.Frag} {mg : Str → Option Value} {F : Fm} {R : Addr → Prop} {A : Nat → List Addr} {ρ : En} {σ : L2.St} {H : Hp} (h : Rel K mg F R A ρ σ H) (i : Nat) : ∃ A', Sub A' A ∧ Rel K mg F R A' (frzE i ρ) σ H := by
  unfold Mo.frzE
  split
  · rename_i kvs e
    obtain ⟨a, o, ws, es, eh, hn, rk⟩ := h.dl e
    have hsub : ∀ c, Bd R (own1 A i []) c → Bd R A c := Bd.sub own1_sub
    have hno : ∀ c ∈ A i, ¬ Bd R (own1 A i []) c := fun c hc z => by
      rcases z with z | ⟨j, z⟩
      · exact h.sep i c hc z
      · by_cases hj : j = i
        · rw [hj, own1_same] at z; cases z
        · rw [own1_ne hj] at z
          exact hj (h.inj j i c z hc)
    exact ⟨own1 A i [], own1_sub, h.mean (sw := .dI (frzL kvs)) (l := []) e es ⟨a, o, ws, rfl, eh, fun z => hn (hsub a z), RepKL.frz hsub hno rk⟩ (fun _ z => nomatch z) List.nodup_nil⟩
  · exact ⟨A, .refl A, h⟩
theorem d_getI (hu : X.A.units + 1 < cLine) (hv : PE X e (tVar i)) (hi : PE X e1 (tE X.K X.mg W f)) (hns : NoSl e1) : PE X (.Subscript e e1 spos) (tE X.K X.mg W (cGetI i f)) :=
  PE.imp (pe_dget hu hv hi hns) fun σ H Q ⟨F, R, A, ρ, rel, s⟩ => by
    obtain ⟨A0, sb, rel0⟩ := rel.frzE i
    unfold cGetI at s
    split at s
    · rename_i kvs0 e0
      obtain ⟨x0, ex0, a0, o0, ws0, rfl, eh0, hn0, rk0⟩ := rel0.sl i _ e0
      refine ⟨_, ex0, F, R, A0, frzE i ρ, rel0, sat_mono (sat_bind s) fun kd ρ1 s1 A1 y H1 p1 rel1 r1 => ?_⟩
      split at s1
      · rename_i z kvs e1
        obtain ⟨d, hd, q⟩ := sat_lift s1
        obtain ⟨x, ex, a, o, ws, rfl, eh, hn, rk⟩ := rel1.sl i _ e1
        rw [ex0] at ex
        cases ex
        obtain ⟨v, hv, rv⟩ := repKI_look rk hd
        cases r1
        exact ⟨a0, v, rfl, .inl ⟨ws, Sum.inl z, .inr ⟨o, eh⟩, rfl, hv.symm⟩, q A1 v H1 ((Stp.sub sb).trans p1) rel1 rv⟩
      · exact s1.elim
    · exact s.elim
end
end Mo
end
section
set_option autoImplicit false
set_option linter.all false
set_option Elab.async false
set_option maxHeartbeats 1000000
set_option maxRecDepth 100000
/-! MS: set(xs) of tuples of ints, few unlike ones (the loop and the call turned from HandS.TupSets'). -/
namespace Mo
open PyProof.Rows hiding St
open PySem PySem.Spec L2
section
variable {P : Program} {w : World} {A : Around} {E : Value → Shared → Prop} {s : Shared}
/-- set.update's loop -/
theorem set_update_tupsB {I : Addr} {fp wr : List Addr} {G : Array GenState → Array GenState → Prop} {n : Nat} {Pv : Nat → Value → Prop} {St : Nat → Shared → Prop} {R : Result → Shared → Prop}
    (W : WalksS P w A.in1 I fp wr G n Pv St) (S : Addr) (hSf : S ∉ fp) (ks : List (Addr × List Int)) (hn : n = ks.length) (hfew : ∀ L : List (List Int), L.Nodup → (∀ k ∈ L, k ∈ ks.map (·.2)) → L.length ≤ 62) (hval : ∀ i v, Pv i v → ∃ p, ks[i]? = some p ∧ v = .ref p.1)
    (h0 : Heap) (hk : ∀ p ∈ ks, IsT P w h0 p.2 p.1) (hS0 : h0.get? S = none) (hw0 : ∀ b ∈ wr, h0.get? b = none) (hu : A.in1.units < cLine) :
    ∀ (k i : Nat) (s : Shared), n - i = k → i ≤ n → St i s → (∀ b o, h0.get? b = some o → s.heap.get? b = some o) → (∃ L es ep t, SetTR P w s.heap S L es ep t ∧ Got ks i L) →
      (∀ s' L es ep t, Moved (S :: wr) G s s' → SetTR P w s'.heap S L es ep t → Got ks n L → (∀ b o, h0.get? b = some o → s'.heap.get? b = some o) → R (.ok (.ret .none)) s') →
      codeAny (model P w) A (.builtin "set.update.loop" ⟨[.ref S, .ref I], []⟩) R s := by
  have hSw : S ∉ wr := fun h => hSf (W.sub _ h)
  have hsub : ∀ b ∈ wr, b ∈ S :: wr := fun b hb => List.mem_cons_of_mem _ hb
  have keepM : ∀ {s s' : Shared}, Moved wr G s s' → (∀ b o, h0.get? b = some o → s.heap.get? b = some o) → ∀ b o, h0.get? b = some o → s'.heap.get? b = some o := fun hm hkp b o e =>
    hm.heap b o (fun hb => by rw [hw0 b hb] at e; cases e) (hkp b o e)
  intro k
  induction k with
  | zero =>
    intro i s hk' hi hst hkp ⟨L, es, ep, t, hS, g⟩ hR
    have hin : i = n := by omega
    subst hin
    refine codeAny_builtin F.entry_set_update_loop ?_
    rw [Around.under_plainId F.plain_set_update_loop _]
    show wpAny _ A.in1 (pyNext (.ref I) >>= _) _ _ s
    refine wpAny_bind (W.done s _ _ hst fun s' hm => ?_)
    show wpAny _ A.in1 (ret Value.none) _ _ s'
    have hkp' := keepM hm hkp
    have sub : ∀ p ∈ L, p ∈ ks := fun p hp => List.mem_of_mem_take (g.sub p hp)
    exact wpAny_pure (hR s' L es ep t (hm.mono hsub) (hS.keep (fun o e => hm.heap S o hSw e) fun p hp => isT_keep (hk p (sub p hp)) hkp') g hkp')
  | succ k ih =>
    intro i s hk' hi hst hkp ⟨L, es, ep, t, hS, g⟩ hR
    have hlt : i < n := by omega
    refine codeAny_builtin F.entry_set_update_loop ?_
    rw [Around.under_plainId F.plain_set_update_loop _]
    show wpAny _ A.in1 (pyNext (.ref I) >>= _) _ _ s
    refine wpAny_bind (W.item i s _ _ hlt hst fun v s' hP hst' hm => ?_)
    obtain ⟨p, hp, rfl⟩ := hval i v hP
    have hkp' := keepM hm hkp
    have sub : ∀ p ∈ L, p ∈ ks := fun p hp => List.mem_of_mem_take (g.sub p hp)
    have hS' : SetTR P w s'.heap S L es ep t := hS.keep (fun o e => hm.heap S o hSw e) fun q hq => isT_keep (hk q (sub q hq)) hkp'
    have hx : IsT P w s'.heap p.2 p.1 := isT_keep (hk p (List.mem_of_getElem? hp)) hkp'
    show wpAny _ A.in1 (holding [Value.ref p.1] (setAdd S (.ref p.1)) >>= _) _ _ s'
    refine wpAny_bind (wpAny_holding ?_)
    unfold setAdd
    refine wpAny_holding ?_
    refine wpAny_bind (wpAny_pyHash_tuple hu hx ?_)
    refine add_at (s := { s' with toks := s'.toks + (p.2.length + 1) }) hS' hx hu (by
      have q := hfew (L.map (·.2)) hS'.nd fun k hk => by
        obtain ⟨p, hp, e⟩ := List.mem_map.mp hk
        exact List.mem_map.mpr ⟨p, sub p hp, e⟩
      rw [List.length_map] at q
      omega) fun b h' L' es' ep' t' hsb hS2 c1 c2 => ?_
    have g' : Got ks (i + 1) L' := by
      rcases Classical.em (p.2 ∈ L.map (·.2)) with c | c
      · rw [c1 c]; exact g.same hp c
      · exact g.more hp (c2 c)
    have hkp2 : ∀ b o, h0.get? b = some o → h'.get? b = some o := fun b o e => (hsb.2 b (fun z => by rw [z, hS0] at e; cases e)).trans (hkp' b o e)
    refine wpAny_pure ⟨plainId_quiet F.plain_set_update_loop _, ih (i + 1) _ (by omega) hlt (W.frame _ s' _ _ hst' (Nat.le_add_right _ _) fun b hb o e => ?_) hkp2 ⟨L', es', ep', t', hS2, g'⟩ fun s'' L2 es2 ep2 t2 hm'' hS'' g'' hkp'' => ?_⟩
    · rw [hsb.2 b (fun h : b = S => hSf (by rw [← h]; exact hb))]; exact e
    · refine hR s'' L2 es2 ep2 t2 (Moved.trans W.gtrans ((hm.mono hsub).then_heap (Nat.le_add_right _ _) fun b o hb e => ?_) hm'') hS'' g'' hkp''
      rw [hsb.2 b (fun h : b = S => hb (by rw [h]; exact List.mem_cons_self))]; exact e

set_option maxRecDepth 100000 in
set_option maxHeartbeats 3200000 in
/-- set(xs) -/
theorem call_set_tupsB {l : Addr} {items : Array Value} (ks : List (Addr × List Int)) {Q : Value → Shared → Prop} (hh : A.handled = none) (hl : s.heap.IsList l items) (hit : items.toList = ks.map fun p => Value.ref p.1)
    (hk : ∀ p ∈ ks, IsT P w s.heap p.2 p.1) (hfew : ∀ L : List (List Int), L.Nodup → (∀ k ∈ L, k ∈ ks.map (·.2)) → L.length ≤ 62) (hu : A.units + 3 < cLine)
    (h : ∀ (h' : Heap) (tk : Nat) L es ep t, SetTR P w h' s.heap.objs.size L es ep t → Got ks ks.length L → (∀ b o, s.heap.get? b = some o → h'.get? b = some o) → Q (.ref s.heap.objs.size) { s with heap := h', toks := tk }) :
    wpAny (model P w) A (call (.type "set") [.ref l]) Q E s := by
  have hisz : items.size = ks.length := by
    have q := congrArg List.length hit
    rw [Array.length_toList, List.length_map] at q
    exact q
  obtain ⟨c, tl, hmro⟩ := F.called_set.mro
  have hmade := F.called_set.made
  have hsub := F.called_set.sub
  refine wpAny_call (codeAny_of_tree ?_)
  show wpAny _ _ (callAny (.type "set") _) _ _ _
  refine wpAny_pure ⟨Code.quiet_builtin _ (by decide +kernel), codeAny_builtin F.entry_type_call ?_⟩
  rw [Around.under_plain (weight_type_call_type "set" [.ref l] []) rfl]
  have h1 := F.called_set.notType
  have h2 := F.called_set.canCreate
  have hct := F.typeCall_set_1 (.ref l)
  repeat (any_goals (first | assumption | wp_step))

  refine codeAny_mono (code_set_led1 (.ref l) (E := E) (Q₁ := fun obj s₁ => obj = .ref s.heap.objs.size ∧ s₁ = { s with heap := s.heap.push { cls := .type "set", dict := none, data := .set #[] 0 (.fresh 0 0 (!w.params.followText "set-order")) } }) ⟨rfl, rfl⟩) fun r s₁ hr => ?_
  cases r with
  | error e => exact hr
  | ok fl =>
    cases fl with
    | ret obj =>
      obtain ⟨rfl, rfl⟩ := hr
      have hS : (s.heap.push { cls := .type "set", dict := none, data := .set #[] 0 (.fresh 0 0 (!w.params.followText "set-order")) }).get? s.heap.objs.size = some { cls := .type "set", dict := none, data := .set #[] 0 (.fresh 0 0 (!w.params.followText "set-order")) } := Heap.get?_push_size _ rfl
      have hT : Shared.TypeIs { s with heap := s.heap.push { cls := .type "set", dict := none, data := .set #[] 0 (.fresh 0 0 (!w.params.followText "set-order")) } } (.ref s.heap.objs.size) "set" := ⟨_, hS, rfl⟩
      have hli := F.called_set.init.lookup
      have hbi := F.called_set.init.bind (.ref s.heap.objs.size)
      repeat (any_goals (first | assumption | wp_step))

      refine codeAny_mono (codeAny_call_builtin (R := wants (fun r s₂ => r = .none ∧ ∃ h' tk L es ep t, s₂ = { s with heap := h', toks := tk } ∧ SetTR P w h' s.heap.objs.size L es ep t ∧ Got ks ks.length L ∧
          (∀ b o, s.heap.get? b = some o → h'.get? b = some o)) E) F.called_set.init.plain F.entry_set_init (check_set_init_1 hT ?_)) fun r₂ s₂ hr₂ => ?_
      · obtain ⟨ol, hol, hcl, nl, hdl⟩ := hl
        obtain ⟨ocls, odict, odata, oslots⟩ := ol
        simp only at hcl hdl
        subst hcl; subst hdl
        have hol' : (s.heap.push { cls := .type "set", dict := none, data := .set #[] 0 (.fresh 0 0 (!w.params.followText "set-order")) }).get? l = some { cls := .type "list", dict := odict, data := .seq items nl, slots := oslots } := Heap.get?_push_of_some _ hol
        have hsls := F.sub_list_set
        have hslf := F.sub_list_frozenset
        have hne : (Value.type "list" == Value.type "dict") = false := by decide
        have hl1 : (s.heap.push { cls := .type "set", dict := none, data := .set #[] 0 (.fresh 0 0 (!w.params.followText "set-order")) }).IsList l items := ⟨_, hol', rfl, nl, rfl⟩
        unfold Builtin.«set.__init__» noKeywords Builtin.Frozenset.updateFrom
        generalize hPI : pyIter = PI
        wp_walk
        subst hPI

        refine wpAny_pyIter_list hl1 ?_
        refine wpAny_bind (wpAny_runValue ?_)
        have hlS : l < s.heap.objs.size := Heap.lt_size hol
        have hh3 : A.in1.in1.in1.handled = none := by simp [hh]
        have hz1 : (s.heap.push { cls := .type "set", dict := none, data := .set #[] 0 (.fresh 0 0 (!w.params.followText "set-order")) }).objs.size = s.heap.objs.size + 1 := Heap.size_push ..
        have hneI : l ≠ (s.heap.push { cls := .type "set", dict := none, data := .set #[] 0 (.fresh 0 0 (!w.params.followText "set-order")) }).objs.size := by
          rw [Heap.size_push]; exact Nat.ne_of_lt (Nat.lt_succ_of_lt hlS)
        have hSf : s.heap.objs.size ∉ [(s.heap.push { cls := .type "set", dict := none, data := .set #[] 0 (.fresh 0 0 (!w.params.followText "set-order")) }).objs.size, l] := by
          rw [Heap.size_push]; simp only [List.mem_cons, List.mem_singleton, List.not_mem_nil, or_false, not_or]
          exact ⟨Nat.ne_of_lt (Nat.lt_succ_self _), Nat.ne_of_gt hlS⟩
        have hval : ∀ (i : Nat) (v : Value), items[i]? = some v → ∃ p, ks[i]? = some p ∧ v = .ref p.1 := fun i v hv => by
          have q : items.toList[i]? = some v := by rw [Array.getElem?_toList]; exact hv
          rw [hit, List.getElem?_map] at q
          cases hq : ks[i]? with
          | none => rw [hq] at q; cases q
          | some p =>
            rw [hq] at q
            exact ⟨p, rfl, (Option.some.inj q).symm⟩
        have none_of : ∀ b, s.heap.objs.size ≤ b → s.heap.get? b = none := fun b hb => by
          cases q : s.heap.get? b with
          | none => rfl
          | some o => exact absurd (Nat.lt_of_lt_of_le (Heap.lt_size q) hb) (Nat.lt_irrefl _)
        refine set_update_tupsB ((Walks.list hh3 _ l hneI items).toS) s.heap.objs.size
          hSf ks hisz hfew hval s.heap hk (none_of _ (Nat.le_refl _)) (fun b hb => none_of b (by
            rw [List.mem_singleton.mp hb, Heap.size_push]
            exact Nat.le_succ _)) hu (items.size - 0) 0 _ (by omega) (Nat.zero_le _)
          ⟨⟨_, Heap.get?_push_size _ rfl, rfl, rfl⟩, (hl1.push _)⟩ (fun b o e => Heap.get?_push_of_some _ (Heap.get?_push_of_some _ e)) ?hS0 ?hR
        case hS0 =>
          have hget : ((s.heap.push { cls := .type "set", dict := none, data := .set #[] 0 (.fresh 0 0 (!w.params.followText "set-order")) }).push { cls := .type "list_iterator", data := .fields #[.ref l, .int 0 0] }).get? s.heap.objs.size
              = some { cls := .type "set", dict := none, data := .set #[] 0 (.fresh 0 0 (!w.params.followText "set-order")) } := Heap.get?_push_of_some _ hS
          exact ⟨[], #[], 0, _, setTR_fresh hget, Got.zero ks⟩
        case hR =>
          intro s' L es ep t hm hS' g' hkp
          obtain ⟨h', g2, d', tk', os'⟩ := s'
          have eg : g2 = s.gens := hm.gens
          have ed : d' = s.drawn := hm.drawn
          have eo : os' = s.os := hm.os
          subst eg; subst ed; subst eo
          show wpAny _ _ _ _ _ _
          refine wpAny_pure ?_
          show wpAny _ _ (ret Value.none) _ _ _
          rw [hisz] at g'
          exact wpAny_pure ⟨rfl, h', tk', L, es, ep, t, rfl, hS', g', hkp⟩

      · cases r₂ with
        | error e => exact hr₂
        | ok fl₂ =>
          cases fl₂ with
          | ret r =>
            obtain ⟨rfl, h', tk, L, es, ep, t, rfl, hS', g', hk'⟩ := hr₂
            repeat (any_goals (first | assumption | wp_step))
            exact h _ _ _ _ _ _ hS' g' hk'
          | _ => exact hr₂.elim
    | _ => exact hr.elim

end
end Mo
end
section
set_option autoImplicit false
set_option linter.all false
set_option Elab.async false
set_option maxHeartbeats 1000000
/-! MS2: sorted(set(xs)), len(set(xs)). -/
namespace Mo
open PySem PySem.Spec L2
theorem code_bd : ∀ {r : List Int}, TS.Bd 64 r → 0 ≤ TS.code 64 r ∧ TS.code 64 r < 64 ^ r.length
  | [], _ => ⟨Int.le_refl 0, by decide⟩
  | d :: r, h => by
    obtain ⟨h1, h2⟩ := code_bd h.tail
    obtain ⟨h3, h4⟩ := h.head
    have e : TS.code 64 (d :: r) = d * 64 ^ r.length + TS.code 64 r := rfl
    rw [e, List.length_cons, Int.pow_succ]
    generalize (64 : Int) ^ r.length = m at *
    have hm : 0 < m := by omega
    have k1 : 0 ≤ d * m := Int.mul_nonneg h3 (Int.le_of_lt hm)
    have k2 : d * m ≤ 63 * m := Int.mul_le_mul_of_nonneg_right (by omega) (Int.le_of_lt hm)
    constructor <;> omega
theorem lex_code : ∀ {a b : List Int}, a.length = b.length → TS.Bd 64 a → TS.Bd 64 b → TS.code 64 a ≤ TS.code 64 b → leT a b = true
  | [], [], _, _, _, _ => rfl
  | [], _ :: _, h, _, _, _ => by cases h
  | _ :: _, [], h, _, _, _ => by cases h
  | x :: xs, y :: ys, h, ha, hb, hc => by
    have hl : xs.length = ys.length := by simpa using h
    have e1 : TS.code 64 (x :: xs) = x * 64 ^ xs.length + TS.code 64 xs := rfl
    have e2 : TS.code 64 (y :: ys) = y * 64 ^ ys.length + TS.code 64 ys := rfl
    obtain ⟨a1, a2⟩ := code_bd ha.tail
    obtain ⟨b1, b2⟩ := code_bd hb.tail
    rw [e1, e2, hl] at hc
    rw [hl] at a2
    unfold leT lexI
    by_cases e : x = y
    · subst e
      rw [if_pos rfl]
      have q := lex_code hl ha.tail hb.tail (by omega)
      exact q
    · rw [if_neg (fun z => e z.symm)]
      generalize (64 : Int) ^ ys.length = m at *
      have hm : 0 < m := by omega
      have : x < y := by
        rcases Int.lt_or_gt_of_ne e with q | q
        · exact q
        · exfalso
          have k : (y + 1) * m ≤ x * m := Int.mul_le_mul_of_nonneg_right (by omega) (Int.le_of_lt hm)
          rw [Int.add_mul, Int.one_mul] at k
          omega
      rw [Bool.not_eq_true']
      exact decide_eq_false (by omega)
theorem tups_keys {B : Addr → Prop} {H : Hp} : ∀ {xs : List PyData} {vs : List V} {nss : List (List Int)}, RpAll B H vs xs → tupsOf xs = some nss → ∃ ks : List (Addr × List Int), vs = ks.map (fun p => V.ref p.1) ∧ ks.map (·.2) = nss ∧ ∀ p ∈ ks, H p.1 = some (.tup (p.2.map V.int)) ∧ ¬ B p.1
  | _, _, nss, .nil, h => by
    simp [tupsOf] at h
    subst h
    exact ⟨[], rfl, rfl, fun p z => nomatch z⟩
  | x :: xs, _, nss, .cons r t, h => by
    cases r with
    | @tup a us ds h1 n1 r1 =>
      unfold tupsOf at h
      rw [Option.bind_eq_some_iff] at h
      obtain ⟨ns, e1, h⟩ := h
      rw [Option.map_eq_some_iff] at h
      obtain ⟨mss, e2, rfl⟩ := h
      obtain ⟨ks, k1, k2, k3⟩ := tups_keys t e2
      refine ⟨(a, ns) :: ks, by rw [List.map_cons, ← k1], by rw [List.map_cons, k2], fun p hp => ?_⟩
      rcases List.mem_cons.mp hp with z | z
      · rw [z]
        exact ⟨by rw [← r1.ints e1]; exact h1, n1⟩
      · exact k3 p z
    | _ => simp [tupsOf] at h
def rSetTB (K : PySem.W.Frag) (P : Program) (w : World) : List V → Hp → VK → Prop := fun xs H Q => ∃ (l : Addr) (ks : List (Addr × List Int)), xs = [V.ref l] ∧ SqL K H l (ks.map fun p => V.ref p.1) ∧ (∀ p ∈ ks, SqT K H p.1 (p.2.map V.int)) ∧
  (∀ L : List (List Int), L.Nodup → (∀ k ∈ L, k ∈ ks.map (·.2)) → L.length ≤ 62) ∧ ∀ a L, H a = none → (∀ p ∈ L, p ∈ ks) → (∀ p ∈ ks, p.2 ∈ L.map (·.2)) → Q (.ref a) (upd H a (SetTO P w a L))
theorem cr_setTB {X : Cx} (hc : X.calm = true) (hu : X.A.units + 64 < cLine) : CallR X (.type "set") (rSetTB X.K X.prog X.w) := by
  intro pins s σ H xs us Q I r ⟨l, ks, e, hl, hk, hf, q⟩
  subst e
  rw [Vals.ref1 r]
  obtain ⟨its, rv, pl, hz⟩ := I.list hl
  have hn : H s.heap.objs.size = none := I.hok.fresh (Nat.le_refl _)
  refine call_set_tupsB (P := X.prog) (w := X.w) ks (I.ok.hd hc) pl.isList (by simpa using refs_of_vals rv) (fun p hp => I.isT (hk p hp)) hf (by omega) fun h' tk L es ep t R g k => ?_
  refine ⟨.ref s.heap.objs.size, upd H s.heap.objs.size (SetTO X.prog X.w s.heap.objs.size L), I.laid (t' := tk) k (Nat.le_refl _) (setTO_new R.t0), rfl, q _ L hn (fun p hp => List.mem_of_mem_take (g.sub p hp)) fun p hp => ?_⟩
  exact g.all p (by rw [List.take_length]; exact hp)
theorem setOk_at {nss : List (List Int)} (h : setOk nss = true) : (∀ ns ∈ nss, 1 ≤ ns.length ∧ TS.Bd 64 ns) ∧ (∀ ns ∈ nss, ∀ ms ∈ nss, ns.length = ms.length) ∧ (dedup nss).length ≤ 62 := by
  unfold setOk at h
  simp only [Bool.and_eq_true, decide_eq_true_eq, List.all_eq_true] at h
  exact ⟨fun ns hn => ⟨(h.1.1 ns hn).1, fun m hm => (h.1.1 ns hn).2 m hm⟩, h.1.2, h.2⟩
section
variable {X : Cx} {W : WX} {e : Expr} {l : Ls} {pos p p2 pos2 : Pos} {b : Bool}
theorem n_sortSet (hc : X.calm = true) (hu : X.A.units + 64 < cLine) (hg : Gl X "sorted") (hm : X.mg "sorted" = none) (hg2 : Gl X "set") (hm2 : X.mg "set" = none) (h1 : PE X e (tL X.K X.mg W b false l)) (na : starEach [e] X.env = (false, eval e X.env) :: starEach [] X.env := by rfl)
    (nb : starEach [.Call (.Name "set" p2) [e] [] pos2] X.env = (false, eval (.Call (.Name "set" p2) [e] [] pos2) X.env) :: starEach [] X.env := by rfl) :
    PE X (.Call (.Name "sorted" p) [.Call (.Name "set" p2) [e] [] pos2] [] pos) (tN X.K X.mg W (nSortSet l)) :=
  PE.imp (pe_callB (cr_sortedT hc) hg hm (by decide +kernel) (pa_cons (pe_callTy (cr_setTB hc hu) hg2 hm2 PyProof.Rows.boot_set (pa_cons h1 pa_nil na) (by decide) (by decide) na) pa_nil nb) (by decide) (by decide) nb) fun σ H Q ⟨F, R, A, ρ, rel, s⟩ => by
    refine ⟨F, R, A, ρ, rel, sat_mono (sat_bind s) fun xs ρ1 s1 A1 v H1 p1 rel1 k => ?_⟩
    obtain ⟨a, vs, rfl, r, q⟩ := k.lst
    split at s1
    · rename_i nss hns
      by_cases hz : setOk nss = true
      · rw [if_pos hz] at s1
        obtain ⟨o1, o2, o3⟩ := setOk_at hz
        obtain ⟨ks, k1, k2, k3⟩ := tups_keys r hns
        subst k2
        refine ⟨a, ks, rfl, by rw [← k1]; exact q, fun p hp => SqT.of (k3 p hp).1, fun L nd hL => Nat.le_trans (nodup_le nd fun x hx => mem_dedup.mpr (hL x hx)) o3, fun S L hS hL1 hL2 => ?_⟩
        have x1 : Ex0 H1 (upd H1 S (SetTO X.prog X.w S L)) := Ex0.new hS
        have rel2 := rel1.grow x1
        -- one length for all
        have hd : ∃ d, 1 ≤ d ∧ ∀ ns ∈ ks.map (·.2), ns.length = d := by
          cases ks with
          | nil => exact ⟨1, Nat.le_refl 1, fun ns z => nomatch z⟩
          | cons k0 ks => exact ⟨k0.2.length, (o1 _ (List.mem_map.mpr ⟨k0, List.mem_cons_self, rfl⟩)).1, fun ns hns => o2 ns hns _ (List.mem_map.mpr ⟨k0, List.mem_cons_self, rfl⟩)⟩
        obtain ⟨d, hd1, hd2⟩ := hd
        have km : ∀ {q : Addr × List Int}, q ∈ L → q.2 ∈ ks.map (·.2) := fun {q} hq => List.mem_map.mpr ⟨q, hL1 q hq, rfl⟩
        refine ⟨S, L, d, 64, rfl, upd_same, fun q hq => SqT.of (x1 _ _ (k3 q (hL1 q hq)).1), hd1, fun q hq => ⟨hd2 _ (km hq), (o1 _ (km hq)).2⟩, fun L' y pm nd hl pw hy => ?_⟩
        have hL' : ∀ q ∈ L', q ∈ L := fun q hq => pm.mem_iff.mp hq
        have e1 : L'.map (·.2) = sortT (ks.map (·.2)) := by
          refine sorted_unique ?_ (sortT_sorted _) nd (sortT_nodup _) fun x => ?_
          · refine List.pairwise_map.mpr (List.Pairwise.imp_of_mem (fun {q r} hq hr h => ?_) pw)
            exact lex_code ((hd2 _ (km (hL' q hq))).trans (hd2 _ (km (hL' r hr))).symm) (o1 _ (km (hL' q hq))).2 (o1 _ (km (hL' r hr))).2 h
          · rw [mem_sortT]
            constructor
            · intro hx
              obtain ⟨q, hq, rfl⟩ := List.mem_map.mp hx
              exact km (hL' q hq)
            · intro hx
              obtain ⟨q, hq, rfl⟩ := List.mem_map.mp hx
              obtain ⟨q', hq', e⟩ := List.mem_map.mp (hL2 q hq)
              exact List.mem_map.mpr ⟨q', pm.mem_iff.mpr hq', e⟩
        have rr : RpAll (Bd R A1) (upd H1 S (SetTO X.prog X.w S L)) (L'.map fun q => V.ref q.1) ((sortT (ks.map (·.2))).map tupI) := by
          rw [← e1, List.map_map]
          have go : ∀ M : List (Addr × List Int), (∀ q ∈ M, q ∈ ks) → RpAll (Bd R A1) (upd H1 S (SetTO X.prog X.w S L)) (M.map fun q => V.ref q.1) (M.map (tupI ∘ fun q => q.2)) := fun M => by
            induction M with
            | nil => intro _; exact .nil
            | cons m M ih =>
              intro hM
              have hm := k3 m (hM m List.mem_cons_self)
              exact .cons (.tup (x1 _ _ hm.1) hm.2 (rpAll_ints m.2)) (ih fun q hq => hM q (List.mem_cons_of_mem _ hq))
          exact go L' fun q hq => hL1 q (hL' q hq)
        obtain ⟨y1, y2⟩ := fin_lst rel2 rr hy
        have p2 := p1.trans x1.stp
        exact s1 A1 y _ _ (p2.trans (Ex0.new hy).stp) y1 (rel2.fresh hy).1 (stp_none p2 hy) (rel2.fresh hy).2 upd_same y2
      · rw [if_neg hz] at s1
        exact s1.elim
    · exact s1.elim
theorem metI_eq (ns : List Int) : PyProof.Rows.firstMet (fun i => ns.getD i 0) ns.length = metI ns := by
  unfold PyProof.Rows.firstMet metI
  have e : (List.range ns.length).map (fun i => ns.getD i 0) = ns := by
    apply List.ext_getElem
    · simp
    · intro i h1 h2
      simp [List.getD, h2]
  rw [e]
  rfl
/-- len(set(xs)) -/
theorem d_lenSetI (hc : X.calm = true) (hg : Gl X "len") (hm : X.mg "len" = none) (hg2 : Gl X "set") (hm2 : X.mg "set" = none) (h1 : PE X e (tL X.K X.mg W b false l)) (na : starEach [e] X.env = (false, eval e X.env) :: starEach [] X.env := by rfl) : PE X (.Call (.Name "len" p) [.Call (.Name "set" p2) [e] [] pos2] [] pos) (tE X.K X.mg W (cLenSetI l)) := by
  have core : PE X (.Call (.Name "len" p) [.Call (.Name "set" p2) [e] [] pos2] [] pos) (fun σ H Q => tL X.K X.mg W b false l σ H fun x H1 => ∃ (l : Addr) (ns : List Int), x = V.ref l ∧ SqL X.K H1 l (ns.map V.int) ∧ ns.length ≤ 4000 ∧ Q (.int (metI ns).length) H1) := by
    refine ⟨fun pins s σ H Q I h => ?_⟩
    refine PyProof.Rows.Call_ (ld_blt I hg hm PySem.boot_len ?_)
    refine PyProof.Rows.callWith_builtin1 (PyProof.Rows.args_cons ?_ rfl) rfl rfl
    refine PyProof.Rows.Call_ (ld_blt I hg2 hm2 PyProof.Rows.boot_set ?_)
    refine PyProof.Rows.callWith_type1 (PyProof.Rows.args_cons (thn (h1.run pins s σ H _ I h) fun v s1 ⟨x, H1, I1, r1, q1⟩ => PyProof.Rows.args_nil ?_) na) na rfl
    obtain ⟨l, ns, rfl, hq, h1, q1⟩ := q1
    cases r1
    obtain ⟨its, r, pl, hz⟩ := I1.list hq
    have hl : its.toArray.size = ns.length := by rw [List.size_toArray, ← r.length, List.length_map]
    refine call_set_list (I1.ok.hd hc) pl.isList (ns := ns) (by simpa using r.ints) (by unfold scanBound; omega) fun h' tk hS hk => ?_
    rw [hl, metI_eq] at hS
    refine PyProof.Rows.args_nil ?_
    have hle : (metI ns).length ≤ ns.length := by rw [← metI_eq]; exact PyProof.Rows.firstMet_length_le _ _
    obtain ⟨o, es, ep, t, ho, hex, hd, _, _, _, hf, hn⟩ := hS
    have I2 : Inv X pins σ H1 { s1 with heap := h', toks := tk } := I1.kept fun b o e => hk b o (Heap.lt_size e) e
    exact call_len_set ho hex hd hf (by rw [hn]; omega) ⟨.int (metI ns).length, H1, I2.tok _, ⟨_, by rw [hn]⟩, q1⟩
  refine PE.imp core fun σ H Q ⟨F, R, A, ρ, rel, s⟩ => ?_
  refine ⟨F, R, A, ρ, rel, sat_mono (sat_bind s) fun xs ρ1 s1 A1 v H1 p1 rel1 k => ?_⟩
  obtain ⟨a, vs, rfl, r, q⟩ := k.lst
  split at s1
  · rename_i ns hns
    by_cases hz : ns.length ≤ 4000
    · rw [if_pos hz] at s1
      exact ⟨a, ns, rfl, by rw [← r.ints hns]; exact q, hz, s1 A1 _ H1 p1 rel1 (.int _)⟩
    · rw [if_neg hz] at s1
      exact s1.elim
  · exact s1.elim
end
end Mo
end
section
set_option autoImplicit false
set_option linter.all false
set_option Elab.async false
set_option maxRecDepth 100000
set_option maxHeartbeats 1000000
/-! ME: enumerate of lists and tuples. -/
namespace Mo
section
open PySem
open PySem.Sem (wp)
open AutoSeq1 (wpAny_loadPart')
theorem meets_enum_tup (l : Addr) (items : Array Value) :
    Meets (Builtin.«enumerate.__new__» ⟨[.type "enumerate", .ref l], []⟩) (fun _ R s => s.heap.IsTuple l items ∧
      R (.ok (.ret (.ref (s.heap.push { cls := .type "tuple_iterator", data := .fields #[.ref l, .int 0 0] }).objs.size)))
        { s with heap := (s.heap.push { cls := .type "tuple_iterator", data := .fields #[.ref l, .int 0 0] }).push { cls := .type "enumerate", data := .fields #[.none, .bool false, .ref s.heap.objs.size, rawInt 0, .none, .none] } }) :=
  .of_wp fun prog w A R s h => by
    obtain ⟨hp, g, d, tk, os⟩ := s; obtain ⟨hl, h⟩ := h
    have hsub := sub_enumerate
    have hL : Heap.IsTuple (Shared.heap ⟨hp, g, d, tk, os⟩) l items := hl
    obtain ⟨o, ho, hoc, no, hod⟩ := id hl
    have ho' : (Shared.heap ⟨hp, g, d, tk, os⟩).get? l = some o := ho
    obtain ⟨oc, od, odt, osl⟩ := o
    simp only at hoc hod
    subst hoc
    subst hod
    wp_walk using wpAny_loadPart' ho'
    refine wpAny_stack_any fun st => wpAny_pure ?_
    split
    · rename_i c _ _ _ _ _
      cases (c == Value.type "enumerate")
      · wp_walk using wpAny_loadPart' ho', wpAny_pyIter_tuple hL
        exact ⟨_, rfl, h⟩
      · wp_walk using wpAny_loadPart' ho', wpAny_pyIter_tuple hL
        exact ⟨_, rfl, h⟩
    · wp_walk using wpAny_loadPart' ho', wpAny_pyIter_tuple hL
      exact ⟨_, rfl, h⟩
section
variable {prog : Program} {w : World} {A : Around} {E : Value → Shared → Prop} {s : Shared}
theorem call_enum_tup {l : Addr} {items : Array Value} {Q : Value → Shared → Prop} (hL : s.heap.IsTuple l items)
    (h : ∀ h', IsEnum h' (s.heap.objs.size + 1) s.heap.objs.size 0 .none → h'.IsTupleIter s.heap.objs.size l 0 → h'.objs.size = s.heap.objs.size + 2 →
      (∀ b o, s.heap.get? b = some o → h'.get? b = some o) → Q (.ref (s.heap.objs.size + 1)) { s with heap := h' }) :
    wpAny (model prog w) A (call (.type "enumerate") [.ref l]) Q E s := by
  refine callType_new F.called_enumerate (by decide) (F.typeCall_enumerate_1 _) (F.newCall_enumerate_1 _) (fun obj => F.args_object_init_2 obj _) F.entry_enumerate_new
    (meets_enum_tup l items) ⟨hL, ?_⟩
  have hz : (s.heap.push { cls := .type "tuple_iterator", data := .fields #[.ref l, .int 0 0] }).objs.size = s.heap.objs.size + 1 := Heap.size_push ..
  show _ ∧ _
  rw [hz]
  have he : IsEnum ((s.heap.push { cls := .type "tuple_iterator", data := .fields #[.ref l, .int 0 0] }).push
      { cls := .type "enumerate", data := .fields #[.none, .bool false, .ref s.heap.objs.size, rawInt 0, .none, .none] }) (s.heap.objs.size + 1) s.heap.objs.size 0 .none := by
    have := Heap.get?_push_size (s.heap.push { cls := .type "tuple_iterator", data := .fields #[.ref l, .int 0 0] })
      (o := { cls := .type "enumerate", data := .fields #[.none, .bool false, .ref s.heap.objs.size, rawInt 0, .none, .none] }) rfl
    rw [hz] at this; exact this
  exact ⟨⟨_, he, rfl⟩, h _ he ⟨_, Heap.get?_push_of_some _ (Heap.get?_push_size _ rfl), rfl, rfl⟩ (by rw [Heap.size_push, hz]) fun b o x => Heap.get?_push_of_some _ (Heap.get?_push_of_some _ x)⟩
theorem draws_tup (hh : A.handled = none) (it l : Addr) (hne : it ≠ l) (items : Array Value) : Draws prog w A it [it, l] items.size (fun i v => items[i]? = some v) (fun i h => h.IsTupleIter it l i ∧ h.IsTuple l items) where
  live := fun i h st => let ⟨o, ho, _⟩ := st.1; ⟨o, ho⟩
  frame := fun i h h' st k => ⟨st.1.at fun o e => k it (by simp) o e, let ⟨o, ho, r⟩ := st.2; ⟨o, k l (by simp) o ho, r⟩⟩
  item := fun i s Q E hi st hQ => RZ.nextOf_tuple_item st.1 st.2 (x := items[i]) (by simp [hi]) fun h' st' sb => by
    have q := hQ items[i] h' s.toks (by simp [hi]) ⟨st', let ⟨o, ho, r⟩ := st.2; ⟨o, (sb.2 l (Ne.symm hne)).trans ho, r⟩⟩ sb
    exact q
  done := fun s Q E st hE => RZ.nextOf_tuple_end hh st.1 st.2 (by simp) hE
theorem enum_end_tup (hh : A.handled = none) {e it l : Addr} {i : Nat} {k : Int} {items : Array Value} {old : Value} {Q : Option Value → Shared → Prop} (he : IsEnum s.heap e it k old) (hit : s.heap.IsTupleIter it l i) (hl : s.heap.IsTuple l items) (hx : items[i]? = none)
    (hQ : ∀ h', Heap.ExtBut it s.heap h' → Q none { s with heap := h' }) : wpAny (model prog w) A (pyNext (.ref e)) Q E s := by
  have hT : s.TypeIs (.ref e) "enumerate" := ⟨_, he, rfl⟩
  unfold pyNext
  refine wpAny_bind (wpAny_attempt (wpAny_callSpecial?_slot (name := Str.ofString "__next__") hT F.slot_enumerate_next
    (wpAny_call_entry F.slot_enumerate_next hT F.entry_enumerate_next ?_ (F.args_enumerate_next_1 _))))
  show wpAny _ _ (field (.ref e) 2 >>= _) _ _ _
  refine wpAny_bind (wpAny_field he rfl (x := .ref it) rfl ?_)
  refine wpAny_bind (RZ.nextOf_tuple_end hh hit hl hx fun h' x he' hx' => ?_)
  obtain ⟨o, ho, hc⟩ := hx'
  refine wpAny_bind (wpAny_isInstance (T := "StopIteration") (b := true) ⟨o, ho, hc⟩ isSubtype_stop ?_)
  exact wpAny_pure (hQ _ he')
end
end
open PySem PySem.Spec L2
section
variable {X : Cx}
/-- enumerate of the tuple at a -/
def IteT (K : PySem.W.Frag) (a : Addr) : It :=
  ⟨fun i H => ∃ (xs : List V) (x : V), SqT K H a xs ∧ xs[i]? = some x, fun i H v H' => ∃ T x, v = .ref T ∧ H T = none ∧ H' = upd H T (.tup [.int (i : Nat), x]) ∧ ∀ xs, SqT K H a xs → xs[i]? = some x, fun i H => ∃ xs : List V, SqT K H a xs ∧ xs.length ≤ i⟩
theorem enum_ne {h : Heap} {e l it : Addr} {i : Int} {old : Value} {items : Array Value} (he : IsEnum h e it i old) (hl : h.IsTuple l items) : e ≠ l := by
  rintro rfl
  obtain ⟨o, ho, hc, _⟩ := hl
  rw [he] at ho
  cases ho
  exact (show Value.type "enumerate" ≠ Value.type "tuple" by decide) hc
theorem iter_ne {h : Heap} {it l : Addr} {i : Nat} {items : Array Value} {a : Addr} (hi : h.IsTupleIter it a i) (hl : h.IsTuple l items) : it ≠ l := by
  rintro rfl
  obtain ⟨o, ho, hc, _⟩ := hl
  obtain ⟨o', ho', hc', _⟩ := hi
  rw [ho] at ho'
  cases ho'
  rw [hc] at hc'
  exact absurd hc' (by decide)
theorem turn_enumT {P : Program} {w : World} {K : PySem.W.Frag} {elts : List Expr} {kk : Nat} {tpos : Pos} (a e it : Addr) :
    Turn P w K (.Tuple elts kk tpos) (IteT K a) [e, it] e (fun i h => (∃ old, IsEnum h e it ((i : Nat) : Int) old) ∧ h.IsTupleIter it a i ∧ e ≠ it) where
  mem := by simp
  obj := fun i h st b hb => by
    obtain ⟨⟨old, he⟩, ⟨o, ho, hc, hd⟩, _⟩ := st
    have e' : b = e ∨ b = it := by simpa using hb
    rcases e' with z | z
    · rw [z]; exact ⟨_, he, fun v q => nomatch q⟩
    · rw [z]; exact ⟨o, ho, fun v q => by rw [hd] at q; cases q⟩
  keep := fun i h h' st k => let ⟨⟨old, he⟩, hi, hne⟩ := st; ⟨⟨old, k e (by simp) _ he⟩, hi.at fun o q => k it (by simp) o q, hne⟩
  item := by
    intro X hP hw hK hc i pins s σ H E I hf st hg
    subst hP hw hK
    obtain ⟨⟨old, he⟩, hit, hne⟩ := st
    obtain ⟨xs, x, hq, hx⟩ := hg
    obtain ⟨its, rv, p, hz⟩ := I.tuple hq
    obtain ⟨u, hu, ru⟩ := rv.get hx
    have hT : s.heap.IsTuple a its.toArray := p
    have hel : e < s.heap.objs.size := Heap.lt_size he
    have hil : it < s.heap.objs.size := by obtain ⟨_, q, _⟩ := hit; exact Heap.lt_size q
    have hlt : i < its.toArray.size := by
      have := (List.getElem?_eq_some_iff.mp hu).1
      simpa using this
    refine wpAny_pyNext_enum_itemD (draws_tup (prog := X.prog) (w := X.w) (A := X.A.in1) (I.ok.hd hc) it a (iter_ne hit hT) its.toArray) he ⟨hit, hT⟩ hlt hne (by simp [hne, enum_ne he hT]) fun x' h' tk hxP ho st' hT' hsz hk => ?_
    have eu : x' = u := by
      have h1 : its.toArray[i]? = some u := by simpa using hu
      rw [h1] at hxP
      exact (Option.some.inj hxP).symm
    subst eu
    refine ⟨_, rfl, wpAny_letOwnedTupleGo_enum (s := { s with heap := h', toks := tk + 1 }) ho fun h'' he' sb => ?_⟩
    have hT2 : h''.get? s.heap.objs.size = some { cls := .type "tuple", data := .seq #[.int i tk, x'] } := (sb.2 _ (Nat.ne_of_gt hel)).trans hT'
    have new : ObjOk X.prog X.w (upd H s.heap.objs.size (.tup [.int (i : Nat), x])) h'' s.heap.objs.size (.tup [.int (i : Nat), x]) :=
      ⟨by show 2 ≤ sizeLine; decide, [.int i tk, x'], .cons ⟨_, rfl⟩ (.cons ru .nil), ⟨_, hT2, rfl, _, rfl⟩⟩
    have I1 : Inv X pins σ (upd H s.heap.objs.size (.tup [.int (i : Nat), x])) { s with heap := h'', toks := tk + 1 } :=
      I.turnedNew (ch := [e, it]) (fun b ob hb q => (sb.2 b (fun z => hb (by simp [z]))).trans (hk b ob (fun z => hb (by simp [z])) (fun z => hb (by simp [z])) q)) hf (Nat.le_refl _) new
    refine ⟨.ref s.heap.objs.size, _, I1, rfl, ⟨_, x, rfl, I.hok.fresh (Nat.le_refl _), rfl, fun ys hy => by rw [I.tuple_inj hy hq]; exact hx⟩, ⟨⟨x', ?_⟩, st'.1.at fun o q => (sb.2 it (Ne.symm hne)).trans q, hne⟩, fun b hb => ?_⟩
    · have e1 : ((i + 1 : Nat) : Int) = (i : Int) + 1 := by omega
      rw [e1]; exact he'
    · have hb' : b < s.heap.objs.size := by
        have e' : b = e ∨ b = it := by simpa using hb
        rcases e' with z | z
        · rw [z]; exact hel
        · rw [z]; exact hil
      rw [upd_ne (Nat.ne_of_lt hb')]
      exact (hf b hb).1
  done := by
    intro X hP hw hK hc i pins s σ H E I hf st hg
    subst hP hw hK
    obtain ⟨⟨old, he⟩, hit, hne⟩ := st
    obtain ⟨xs, hq, hx⟩ := hg
    obtain ⟨its, rv, p, hz⟩ := I.tuple hq
    have hT : s.heap.IsTuple a its.toArray := p
    obtain ⟨f0, f1, f2, f3, f4, f5⟩ := hf it (by simp)
    have hl := rv.length
    exact enum_end_tup (I.ok.hd hc) he hit hT (by simp; omega) fun h' eb => ⟨rfl, I.turned (t' := s.toks) (fun b o hb q => eb b o hb q) f0 f1 f3 f4 f5⟩
  self := fun A i s Q E st h => let ⟨⟨_, he⟩, _⟩ := st; wpAny_pyIter_enum he h
/-- enumerate(e), a list or a tuple as the value tells -/
theorem pi_enumA {e : Expr} {ta : TA} {p pos tpos : Pos} {elts : List Expr} {kk : Nat} (hg : Gl X "enumerate") (hm : X.mg "enumerate" = none) (ha : PA X [e] ta) (hs : starEach [e] X.env = [(false, eval e X.env)] := by rfl) :
    PI X (.Tuple elts kk tpos) (.Call (.Name "enumerate" p) [e] [] pos) (fun σ H R => ta σ H fun vs H1 => ∃ a xs, vs = [.ref a] ∧ ((SqL X.K H1 a xs ∧ R (Ite X.K a) H1) ∨ (SqT X.K H1 a xs ∧ R (IteT X.K a) H1))) := by
  refine ⟨fun pins s σ H R I h => ?_⟩
  refine PyProof.Rows.Call_ (ld_blt I hg hm PyProof.Rows.boot_enumerate (PyProof.Rows.callWith_type1 (thn (ha.run pos pins s σ H _ I h) fun us s1 ⟨vs, H1, I1, r1, q1⟩ => ?_) hs rfl))
  obtain ⟨a, xs, ex, q1⟩ := q1
  subst ex
  cases r1 with
  | cons r rr =>
    cases rr
    cases r
    have fr : ∀ b ∈ [s1.heap.objs.size + 1, s1.heap.objs.size], FpOk X pins H1 b := fun b hb => by
      have e' : b = s1.heap.objs.size + 1 ∨ b = s1.heap.objs.size := by simpa using hb
      have hle : s1.heap.objs.size ≤ b := by
        rcases e' with z | z
        · rw [z]; exact Nat.le_add_right _ _
        · rw [z]; exact Nat.le_refl _
      exact I1.fpOk hle (I1.hok.fresh hle)
    rcases q1 with ⟨hq, q⟩ | ⟨hq, q⟩
    · obtain ⟨its, rv, p', hz⟩ := I1.list hq
      refine call_enumerate_list p'.isList fun h' he hit hsz hk => wpAny_pyIter_enum he ?_
      exact ⟨s1.heap.objs.size + 1, [s1.heap.objs.size + 1, s1.heap.objs.size], _, _, H1, rfl, I1.kept (t' := s1.toks) hk, turn_enum a (s1.heap.objs.size + 1) s1.heap.objs.size, ⟨⟨.none, he⟩, hit, Nat.succ_ne_self _⟩, fr, q⟩
    · obtain ⟨its, rv, p', hz⟩ := I1.tuple hq
      refine call_enum_tup (show s1.heap.IsTuple a its.toArray from p') fun h' he hit hsz hk => wpAny_pyIter_enum he ?_
      exact ⟨s1.heap.objs.size + 1, [s1.heap.objs.size + 1, s1.heap.objs.size], _, _, H1, rfl, I1.kept (t' := s1.toks) hk, turn_enumT a (s1.heap.objs.size + 1) s1.heap.objs.size, ⟨⟨.none, he⟩, hit, Nat.succ_ne_self _⟩, fr, q⟩
variable {W : WX} {e : Expr} {l : Ls} {pos p tpos : Pos}
theorem enumT_get {xs : List PyData} {n : Nat} {d : PyData} (h : (enumT xs)[n]? = some d) : ∃ x, xs[n]? = some x ∧ d = .tuple [.int (n : Nat), x] := by
  obtain ⟨a, x, h1, h2, rfl⟩ := zipT_get h
  obtain ⟨h3, rfl⟩ := rng_get h1
  exact ⟨x, h2, by simp⟩
theorem enumT_length (xs : List PyData) : (enumT xs).length = xs.length := by
  unfold enumT
  rw [zipT_length, rng_length]
  omega
theorem i_enum {elts : List Expr} {kk : Nat} (hg : Gl X "enumerate") (hm : X.mg "enumerate" = none) (h1 : PE X e (tL X.K X.mg W true true l)) (na : starEach [e] X.env = (false, eval e X.env) :: starEach [] X.env := by rfl) (nb : starEach [e] X.env = [(false, eval e X.env)] := by rfl) :
    PI X (.Tuple elts kk tpos) (.Call (.Name "enumerate" p) [e] [] pos) (tI X.K X.mg W (iEnum l)) :=
  PI.imp (pi_enumA hg hm (pa_cons h1 pa_nil na) nb) fun σ H Q ⟨F, R, A, ρ, rel, s⟩ => by
    refine ⟨F, R, A, ρ, rel, sat_mono (sat_bind s) fun xs ρ1 s1 A1 v H1 p1 rel1 k => ?_⟩
    obtain ⟨a, vs, rfl, r, q | q⟩ := k
    · refine ⟨a, vs, rfl, .inl ⟨q.1, s1 A1 _ H1 p1 rel1 fun R' A' H' hR hd p' j => ?_⟩⟩
      have hq := q.2 rfl A' H' p'
      refine ⟨fun hj => ⟨vs, hq, r.none (by rw [enumT_length] at hj; exact hj)⟩, fun d ed => ?_⟩
      obtain ⟨x, ex, rfl⟩ := enumT_get ed
      obtain ⟨v, e2, rv⟩ := r.get ex
      refine ⟨⟨vs, v, hq, e2⟩, fun y H2 yl => ?_⟩
      obtain ⟨T, x', rfl, hT, rfl, z⟩ := yl
      have e3 := z vs hq
      rw [e2] at e3
      cases e3
      exact yld_pair hd hT (.int _) (rv.stpR hR p')
    · obtain ⟨_, q, n⟩ := q
      refine ⟨a, vs, rfl, .inr ⟨SqT.of q, s1 A1 _ H1 p1 rel1 fun R' A' H' hR hd p' j => ?_⟩⟩
      have hq : SqT X.K H' a vs := SqT.of (p'.back q fun i z => n (.inr ⟨i, z⟩)).1
      refine ⟨fun hj => ⟨vs, hq, r.none (by rw [enumT_length] at hj; exact hj)⟩, fun d ed => ?_⟩
      obtain ⟨x, ex, rfl⟩ := enumT_get ed
      obtain ⟨v, e2, rv⟩ := r.get ex
      refine ⟨⟨vs, v, hq, e2⟩, fun y H2 yl => ?_⟩
      obtain ⟨T, x', rfl, hT, rfl, z⟩ := yl
      have e3 := z vs hq
      rw [e2] at e3
      cases e3
      exact yld_pair hd hT (.int _) (rv.stpR hR p')
/-- zip of two lists, or of two tuples -/
theorem i_zipD {f g : Ex} {e1 e2 : Expr} {elts : List Expr} {kk : Nat} (hg : Gl X "zip") (hm : X.mg "zip" = none) (h1 : PE X e1 (tE X.K X.mg W f)) (h2 : PE X e2 (tE X.K X.mg W g)) (na : starEach [e1, e2] X.env = (false, eval e1 X.env) :: starEach [e2] X.env := by rfl) (na2 : starEach [e2] X.env = (false, eval e2 X.env) :: starEach [] X.env := by rfl)
    (hpl : (backTo pos (starEach [e2] X.env)).any (·.1) = false := by rfl) : PI X (.Tuple elts kk tpos) (.Call (.Name "zip" p) [e1, e2] [] pos) (tI X.K X.mg W (iZipD f g)) :=
  PI.imp (RZ.pi_zipA hg hm (pa_cons h1 (pa_cons h2 pa_nil na2) na) na hpl) fun σ H Q ⟨F, R, A, ρ, rel, s⟩ => by
    refine ⟨F, R, A, ρ, rel, sat_mono (sat_bind s) fun d1 ρ1 s1 A1 v1 H1 p1 rel1 r1 => ?_⟩
    refine ⟨F, R, A1, ρ1, rel1, sat_mono (sat_bind s1) fun d2 ρ2 s2 A2 v2 H2 p2 rel2 r2 => ?_⟩
    have r1' := r1.stp p2
    split at s2
    · rename_i xs ys
      cases r1' with
      | @lst a vs _ h1 n1 q1 =>
        cases r2 with
        | @lst b ws _ h2 n2 q2 =>
          refine ⟨a, b, vs, ws, rfl, .inl ⟨SqL.of h1, SqL.of h2, s2 A2 _ H2 (p1.trans p2) rel2 fun R' A' H' hR hd p' j => ?_⟩⟩
          have hq1 : SqL X.K H' a vs := SqL.of (p'.back h1 fun i z => n1 (.inr ⟨i, z⟩)).1
          have hq2 : SqL X.K H' b ws := SqL.of (p'.back h2 fun i z => n2 (.inr ⟨i, z⟩)).1
          refine ⟨fun hj => ⟨vs, ws, hq1, hq2, ?_⟩, fun d e => ?_⟩
          · rw [zipT_length, ← q1.length, ← q2.length] at hj
            omega
          · obtain ⟨x, y, e1, e2, rfl⟩ := zipT_get e
            obtain ⟨u1, f1, g1⟩ := q1.get e1
            obtain ⟨u2, f2, g2⟩ := q2.get e2
            refine ⟨⟨vs, ws, u1, u2, hq1, hq2, f1, f2⟩, fun z H3 yl => ?_⟩
            obtain ⟨T, x1, y1, rfl, hT, rfl, z1, z2⟩ := yl
            have w1 := z1 vs hq1
            have w2 := z2 ws hq2
            rw [f1] at w1
            rw [f2] at w2
            cases w1
            cases w2
            exact yld_pair hd hT (g1.stpR hR p') (g2.stpR hR p')
    · rename_i xs ys
      cases r1' with
      | @tup a vs _ h1 n1 q1 =>
        cases r2 with
        | @tup b ws _ h2 n2 q2 =>
          refine ⟨a, b, vs, ws, rfl, .inr ⟨SqT.of h1, SqT.of h2, s2 A2 _ H2 (p1.trans p2) rel2 fun R' A' H' hR hd p' j => ?_⟩⟩
          have hq1 : SqT X.K H' a vs := SqT.of (p'.back h1 fun i z => n1 (.inr ⟨i, z⟩)).1
          have hq2 : SqT X.K H' b ws := SqT.of (p'.back h2 fun i z => n2 (.inr ⟨i, z⟩)).1
          refine ⟨fun hj => ⟨vs, ws, hq1, hq2, ?_⟩, fun d e => ?_⟩
          · rw [zipT_length, ← q1.length, ← q2.length] at hj
            omega
          · obtain ⟨x, y, e1, e2, rfl⟩ := zipT_get e
            obtain ⟨u1, f1, g1⟩ := q1.get e1
            obtain ⟨u2, f2, g2⟩ := q2.get e2
            refine ⟨⟨vs, ws, u1, u2, hq1, hq2, f1, f2⟩, fun z H3 yl => ?_⟩
            obtain ⟨T, x1, y1, rfl, hT, rfl, z1, z2⟩ := yl
            have w1 := z1 vs hq1
            have w2 := z2 ws hq2
            rw [f1] at w1
            rw [f2] at w2
            cases w1
            cases w2
            exact yld_pair hd hT (g1.stpR hR p') (g2.stpR hR p')
    · exact s2.elim
end
end Mo
end
section
set_option autoImplicit false
set_option linter.all false
set_option Elab.async false
set_option maxHeartbeats 1000000
set_option maxRecDepth 100000
/-! MSK: sorted(xs, key=f), f a def of the module that gives ints (the tree's walk turned from KE.SortKeyHeap's). -/
namespace Mo
open PyProof.Rows hiding St
open PySem PySem.W PySem.Calls L2

/-- an int at any heap -/
def KInt (v : Value) (k : Int) : Prop := ∃ t, v = .int k t
section
variable {X : Cx} {pins : List (Addr × Obj)} {σ : L2.St} {H : Hp} {s : Shared}
theorem Inv.env2 (I : Inv X pins σ H s) : Env0 X.prog X.w X.K X.mg X.base X.A.in1.in1 X.stack s H := (I.env0.in1).in1
/-- a def called two levels in -/
theorem run_fn2 {k : Nat} {f : Addr} {fd : FuncData} {ps : List Str} {sp : Sp} {Q : VK} {us : List Value} {vs : List V} {E : Value → Shared → Prop} (F : FnM X.prog X.w X.K X.mg X.base k f fd ps sp) (hr : Room k X.A.in1.in1) (hgd : X.A.guards = some []) (hb : Binds X.K fd ps [])
    (I : Inv X pins σ H s) (r : Vals vs us) (h : sp vs H Q E0) : wpAny (model X.prog X.w) X.A.in1.in1 (call (.ref f) us) (EP X pins σ Q) E s := by
  have hl : (us ++ []).length = ps.length := by rw [List.append_nil, ← r.length]; exact F.len _ _ _ _ h
  have hbs := hb s us I.kIn hl
  rw [List.append_nil] at hbs
  refine wpAny_call (codeAny_mono (F.run X.A.in1.in1 X.stack s H ⟨us, []⟩ us vs Q E0 hr hgd (Inv.env2 I) hbs r h) fun r s' hq => ?_)
  cases r with
  | error e => exact hq.elim
  | ok fl =>
    cases fl with
    | ret u => exact I.after hq
    | next => exact False.elim hq
    | brk => exact False.elim hq
    | cont => exact False.elim hq
/-- the sort's own objects: kS, the keys' list; a, the list under work -/
abbrev myPins (pins : List (Addr × Obj)) (kS a : Addr) (kA : Array Value) (e e1 : Nat) : List (Addr × Obj) := (kS, seqObj "list" kA e) :: (a, seqObj "list" #[] e1) :: pins
structure Mine (X : Cx) (pins : List (Addr × Obj)) (b : Addr) : Prop where
  up : X.s_0.heap.objs.size ≤ b
  loc : b ≠ X.env.locals
  fs : b ∉ X.fs
  cel : ∀ x c, X.env.cells.lookup x = some c → c ≠ b
  pin : ∀ p ∈ X.pn ++ pins, p.1 ≠ b
theorem mine_of (I : Inv X pins σ H s) {b : Addr} (h : s.heap.objs.size ≤ b) : Mine X pins b := by
  obtain ⟨_, h2, h3, _, h5, h6⟩ := I.fpOk (H' := H) h (I.hok.fresh h)
  exact ⟨Nat.le_trans I.sz h, h2, h3, h5, h6⟩
theorem keyL_rest {f : Value} {a kS : Addr} {e1 : Nat} {vs : List Value} {kz : List Int} {P : PySem.Fin → Shared → Prop} {E : Value → Shared → Prop} (I : Inv X (myPins pins kS a #[] 0 e1) σ H s) (mk : Mine X pins kS) (ma : Mine X pins a) (hka : kS ≠ a)
    (hlen : kz.length = vs.length) (hZ : vs.length ≤ sizeLine) (hu : X.A.units + 64 < cLine)
    (turn : ∀ (i : Nat) (v : Value) (k : Int), vs[i]? = some v → kz[i]? = some k → ∀ (kA : Array Value) (e : Nat) (H' : Hp) (t : Shared), Ex0 H H' → Inv X (myPins pins kS a kA e e1) σ H' t →
      wpAny (model X.prog X.w) X.A.in1.in1 (call f [v]) (fun u t' => ∃ H'', Ex0 H' H'' ∧ Inv X (myPins pins kS a kA e e1) σ H'' t' ∧ KInt u k) (fun _ _ => False) t)
    (h : ∀ (H' : Hp) (t : Shared) (out : List Value) (c : Nat), Ex0 H H' → H' a = none → KeyedOut false (kz.map .int) vs out → (∀ outV : List V, Vals outV out → outV.length ≤ sizeLine → Inv X pins σ (upd H' a (.lst outV)) t) → P (.done (.ret .none)) t) :
    wpAny (model X.prog X.w) X.A.in1.in1 (ksk_rest a f false vs.toArray e1 (.ref kS)) P E s := by
  unfold ksk_rest
  refine wpAny_bind (wpAny_rule ?_)
  first
    | rw [List.forIn_toArray]
    | (rw [← Array.forIn_toList]; simp only [List.toList_toArray])
    | rw [← Array.forIn_toList]
  refine wpAny_bind (ksk_fold (fun i s' => ∃ H' kA e, Ex0 H H' ∧ Inv X (myPins pins kS a kA e e1) σ H' s' ∧ EachIs KInt kA.toList (kz.take i)) vs 0 s
    ⟨H, #[], 0, .refl H, I, by rw [List.take_zero]; exact EachIs.nil⟩ ?step ?done)
  case step =>
    rintro j x s' hx ⟨H', kA, e, x', I', hk⟩
    simp only [Nat.zero_add] at hk ⊢
    have hj : j < vs.length := (List.getElem?_eq_some_iff.mp hx).1
    obtain ⟨k, hkj⟩ : ∃ k, kz[j]? = some k := ⟨_, List.getElem?_eq_getElem (by omega)⟩
    have hz : kA.size ≤ vs.length := by
      have h1 := hk.length
      rw [Array.length_toList, List.length_take] at h1
      omega
    refine wpAny_bind (wpAny_attempt (wpAny_mono (turn j x k hx hkj kA e H' s' x' I') (fun v s'' he => ?_) fun _ _ hF => hF.elim))
    obtain ⟨H2, x2, I2, hr⟩ := he
    try dsimp only
    have nk2 := (I2.pin (kS, seqObj "list" kA e) (List.mem_append_right _ List.mem_cons_self))
    have na2 := (I2.pin (a, seqObj "list" #[] e1) (List.mem_append_right _ (List.mem_cons_of_mem _ List.mem_cons_self)))
    have s1 := Heap.SameBut.update s''.heap kS (Obj.mapSeq (·.push v))
    obtain ⟨c2, hc2⟩ : ∃ c2, (s''.heap.update kS (Obj.mapSeq (·.push v))).get? kS = some (seqObj "list" (kA.push v) c2) := ⟨_, get?_update_seq nk2.1 (·.push v)⟩
    have ek : kz.take (j + 1) = kz.take j ++ [k] := by rw [List.take_add_one, hkj]; simp
    have ea : (kA.push v).toList = kA.toList ++ [v] := by simp
    refine wpAny_bind (listUpdate_at nk2.1 rfl ?_ (Nat.le_trans hz hZ) (Nat.le_trans (Nat.le_of_eq (Array.size_push ..)) (Nat.succ_le_succ (Nat.le_trans hz hZ))))
    have I0 : Inv X pins σ H2 s'' := I2.pins_of fun p hp => I2.pin p (List.mem_append_right _ (List.mem_cons_of_mem _ (List.mem_cons_of_mem _ hp)))
    have I3 : Inv X pins σ H2 { s'' with heap := s''.heap.update kS (Obj.mapSeq (·.push v)) } := I0.turned (t' := s''.toks) (fun b o hb q => (s1.2 b hb).trans q) nk2.2.1 mk.loc (.inr mk.up) mk.cel mk.pin
    refine wpAny_pure ⟨rfl, H2, kA.push v, c2, x'.trans x2, I3.pins_of fun p hp => ?_, ?_⟩
    · rcases List.mem_cons.mp hp with z | z
      · rw [z]; exact ⟨hc2, nk2.2.1, nk2.2.2.1, nk2.2.2.2.1, fun v q => by cases q⟩
      · rcases List.mem_cons.mp z with z | z
        · rw [z]; exact ⟨(s1.2 a hka.symm).trans na2.1, na2.2.1, na2.2.2.1, na2.2.2.2.1, na2.2.2.2.2⟩
        · exact I3.pin p (List.mem_append_right _ z)
    · rw [ea, ek]
      exact each_snoc hr hk
  case done =>
    rintro s' ⟨H', kA, e, x', I', hk⟩
    have e3 : kz.take (0 + vs.length) = kz := List.take_of_length_le (by omega)
    rw [e3] at hk
    have nk := (I'.pin (kS, seqObj "list" kA e) (List.mem_append_right _ List.mem_cons_self))
    have na := (I'.pin (a, seqObj "list" #[] e1) (List.mem_append_right _ (List.mem_cons_of_mem _ List.mem_cons_self)))
    have hk' : EachIs (fun v k => ∃ as, Reads s'.heap v k as) kA.toList (kz.map .int) := by
      have go : ∀ {us : List Value} {ns : List Int}, EachIs KInt us ns → EachIs (fun v k => ∃ as, Reads s'.heap v k as) us (ns.map .int) := fun {us ns} q => by
        induction q with
        | nil => exact .nil
        | cons h _ ih =>
          obtain ⟨t, rfl⟩ := h
          exact .cons ⟨[], .int _ t⟩ ih
      exact go hk
    have hsz : kA.size = vs.length := by
      have h1 := hk.length
      rw [Array.length_toList] at h1
      omega
    have hal : AllAlike (kz.map PyData.int) := fun d hd d' hd' => by
      obtain ⟨i, _, rfl⟩ := List.mem_map.mp hd
      obtain ⟨j, _, rfl⟩ := List.mem_map.mp hd'
      simp [alike]
    have hsk : Sortable (kz.map PyData.int) := .inr fun d hd => by
      obtain ⟨i, _, rfl⟩ := List.mem_map.mp hd
      exact ⟨fun z => (nomatch z), fun _ z => (nomatch z)⟩
    have hun : ∀ d, d ∈ kz.map PyData.int → X.A.in1.in1.units + d.depth < cLine := fun d hd => by
      obtain ⟨i, _, rfl⟩ := List.mem_map.mp hd
      simp only [PyData.depth]
      show X.A.units + 1 + 1 + 0 < cLine
      omega
    try dsimp only
    refine wpAny_bind (listItems_at nk.1 rfl ?_)
    have I0 : Inv X pins σ H' s' := I'.pins_of fun p hp => I'.pin p (List.mem_append_right _ (List.mem_cons_of_mem _ (List.mem_cons_of_mem _ hp)))
    -- the heap without the keys' list
    have hh : ∀ b o, (hidT s'.heap (fun b => if b = kS then some (.lst []) else none)).get? b = some o → s'.heap.get? b = some o := fun b o q => (of_hidT q).1
    have hno : (hidT s'.heap (fun b => if b = kS then some (.lst []) else none)).get? kS = none := by
      cases q : (hidT s'.heap (fun b => if b = kS then some (.lst []) else none)).get? kS with
      | none => rfl
      | some o =>
        have z := (of_hidT q).2
        rw [if_pos rfl] at z
        cases z
    refine keyH_end (κ := dataKind s'.heap (kz.map .int)) (h₁ := hidT s'.heap (fun b => if b = kS then some (.lst []) else none)) (fun b o _ q => hh b o q) hno nk.1 na.1 hka (SortsAt.data (s := s') hk' hal hsk hun) hsz hZ fun h3 tk3 c k3 n3 => ?_
    have keep : ∀ b o, b ≠ a → b ≠ kS → s'.heap.get? b = some o → h3.get? b = some o := fun b o n1 n2 q => k3 b o n1 (hidT_get q (if_neg n2))
    refine h H' _ _ c x' na.2.1 ⟨s'.heap, kA.toList, hal, rfl, hk'⟩ fun outV hv hvl => ?_
    have nit : ∀ b u, H' b = some u → b ≠ a ∧ b ≠ kS := fun b u q => ⟨(fun z => by rw [z, na.2.1] at q; cases q), fun z => by rw [z, nk.2.1] at q; cases q⟩
    have hch : ∀ b ∈ [a, kS], b = a ∨ b = kS := fun b hb => by simpa using hb
    refine I0.step (g' := s'.gens) (d' := s'.drawn) (t' := tk3) (ch := [a, kS]) (fun b hb => ?_) (fun b o _ _ hc q _ => keep b o (fun z => hc (by simp [z])) (fun z => hc (by simp [z])) q) (fun b o _ _ hc q _ => ⟨o.slots, keep b o (fun z => hc (by simp [z])) (fun z => hc (by simp [z])) q⟩)
      (fun b o hc q n => ?_) (fun b o hc q => ⟨o, keep b o (fun z => hc (by simp [z])) (fun z => hc (by simp [z])) q⟩) (fun b xs q => ?_) (fun b o u q => ?_) (fun b ps q => ⟨#[], ?_⟩) (fun m hm => ?_) (fun b u q => ?_) I0.bare
    · rcases hch b hb with z | z
      · rw [z]; exact ⟨.inr ma.up, ma.loc, ma.cel, ma.pin⟩
      · rw [z]; exact ⟨.inr mk.up, mk.loc, mk.cel, mk.pin⟩
    · rw [upd_ne (fun z => hc (by simp [z]))]; exact n
    · rw [upd_ne (nit b _ q).1]; exact q
    · rw [upd_ne (nit b _ q).1]; exact q
    · rw [upd_ne (nit b _ q).1, q]; simp
    · obtain ⟨o, es, ep, ho, r⟩ := hm
      exact ⟨o, es, ep, keep _ o ma.loc.symm mk.loc.symm ho, r⟩
    · by_cases hb : b = a
      · subst hb
        rw [upd_same] at q
        cases q
        exact ⟨hvl, _, c, hv, n3⟩
      · rw [upd_ne hb] at q
        refine (I0.hok b u q).stay (fun c' v hc' q' => keep c' v ?_ ?_ q') (fun c' q' => by rw [upd_ne (nit c' _ q').1]; exact q') fun c' xs q' => by rw [upd_ne (nit c' _ q').1]; exact q'
        · rcases hc' with z | z
          · rw [z]; exact hb
          · exact (nit c' _ z).1
        · rcases hc' with z | z
          · rw [z]; exact (nit b u q).2
          · exact (nit c' _ z).2
/-- what the sort of the items by the ints gives -/
def rSortKM (X : Cx) (x : Str) (f : Fs) : List V → List V → Hp → VK → Prop := fun us zs H Q => ∃ (l fa : Addr) (vs : List V) (xs : List PyData) (ks : List Int) (B : Addr → Prop), us = [.ref l] ∧ zs = [.ref fa] ∧ X.mg x = some (.ref fa) ∧ SqL X.K H l vs ∧ RpAll B H vs xs ∧ (∀ a, B a → H a ≠ none ∧ ∀ us, H a ≠ some (.tup us)) ∧
  keysOf f xs = some ks ∧ xs.length ≤ maxSeq ∧ ∀ (H' : Hp) (p : Addr) (outV : List V), Ex0 H H' → H' p = none → H p = none → RpAll B H' outV (sortI xs ks) → Q (.ref p) (upd H' p (.lst outV))
theorem keysOf_at {f : Fs} : ∀ {xs : List PyData} {ks : List Int} {i : Nat} {d : PyData} {k : Int}, keysOf f xs = some ks → xs[i]? = some d → ks[i]? = some k → ∃ io, f [.dat d] = .ret (.int k) io
  | [], _, _, _, _, _, h, _ => by simp at h
  | x :: xs, ks, i, d, k, h, h1, h2 => by
    unfold keysOf at h
    split at h
    · rename_i k0 io he
      rw [Option.map_eq_some_iff] at h
      obtain ⟨ks', e, rfl⟩ := h
      cases i with
      | zero =>
        simp at h1 h2
        subst h1
        subst h2
        exact ⟨io, he⟩
      | succ i => exact keysOf_at (i := i) e (by simpa using h1) (by simpa using h2)
    · cases h
theorem keysOf_len {f : Fs} : ∀ {xs : List PyData} {ks : List Int}, keysOf f xs = some ks → ks.length = xs.length
  | [], ks, h => by simp [keysOf] at h; subst h; rfl
  | x :: xs, ks, h => by
    unfold keysOf at h
    split at h
    · rw [Option.map_eq_some_iff] at h
      obtain ⟨ks', e, rfl⟩ := h
      rw [List.length_cons, List.length_cons, keysOf_len e]
    · cases h
/-- an item with its value, its data and its key -/
abbrev It3 := (PyData × Int) × V
theorem each_it {us : List Value} : ∀ {vs : List V} {xs : List PyData} {ks : List Int}, Vals vs us → xs.length = vs.length → ks.length = vs.length → EachIs (fun (u : Value) (b : It3) => RelV b.2 u) us ((xs.zip ks).zip vs) := by
  intro vs xs ks r
  induction r generalizing xs ks with
  | nil =>
    intro h1 h2
    cases xs with
    | nil => exact .nil
    | cons _ _ => cases h1
  | cons h _ ih =>
    intro h1 h2
    cases xs with
    | nil => cases h1
    | cons x xs =>
      cases ks with
      | nil => cases h2
      | cons k ks => exact .cons h (ih (by simpa using h1) (by simpa using h2))
theorem zip3_fst {xs : List PyData} {ks : List Int} {vs : List V} (h1 : xs.length = vs.length) (h2 : ks.length = vs.length) : ((xs.zip ks).zip vs).map (·.1) = xs.zip ks := by
  apply List.map_fst_zip
  rw [List.length_zip]
  omega
theorem rp3 {B : Addr → Prop} {H : Hp} {xs : List PyData} {ks : List Int} {vs : List V} (r : RpAll B H vs xs) : ∀ b ∈ (xs.zip ks).zip vs, Rp B H b.2 b.1.1 := by
  induction xs generalizing ks vs with
  | nil => intro b hb; simp at hb
  | cons x xs ih =>
    cases r with
    | cons h t =>
      cases ks with
      | nil => intro b hb; simp at hb
      | cons k ks =>
        intro b hb
        rcases List.mem_cons.mp (show b ∈ ((x, k), _) :: _ from hb) with z | z
        · rw [z]; exact h
        · exact ih t b z
theorem cr_sortKM {x : Str} {f : Fs} {k : Nat} (c : CalM X.prog X.w X.K X.mg X.base k x (spM X.K X.mg 1 f)) (hr : Room (k + 2) X.A) (hgd : X.A.guards = some []) : CallRK X (.builtin "sorted") [Str.ofString "key"] (rSortKM X x f) := by
  intro pins s σ H us zs uvs zvs Q I ru rz ⟨l, fa, vs, xs, ks, B, e1, e2, hm, hs, r, hB, hk, hl, q⟩
  subst e1 e2
  obtain ⟨f', fd, ps, F, hm', hkp, hbi⟩ := c.ex
  rw [hm] at hm'
  cases hm'
  obtain ⟨its, rv, pl, hz⟩ := I.list hs
  rw [Vals.ref1 ru, Vals.ref1 rz]
  have hlv := r.length
  have hlk := keysOf_len hk
  have hli := rv.length
  have hu := hr.units
  show wpAny (model X.prog X.w) X.A (call (.builtin "sorted") [.ref l] [(Str.ofString "key", .ref fa)]) _ _ _
  refine sorted_of_sort pl.isList (by rw [← hli]; exact hz) (PyProof.Rows.ksk_s1 _ _) (fun _ => PyProof.Rows.ksk_l1 _ _) fun E' => ?_
  rw [PyProof.Rows.ksk_t1]
  have hco := copyHeap_at s.heap its
  generalize hs1 : ({ s with heap := copyHeap s.heap its } : Shared) = s1 at *
  have hheap : s1.heap = copyHeap s.heap its := by rw [← hs1]
  have ha : s.heap.objs.size + 1 < s1.heap.objs.size := by rw [hheap]; exact Heap.lt_size hco
  have hoa : s1.heap.get? (s.heap.objs.size + 1) = some (seqObj "list" its.toArray 0) := by rw [hheap]; exact hco
  obtain ⟨e1, ho1⟩ : ∃ e1, (s1.heap.update (s.heap.objs.size + 1) (Obj.mapSeq fun _ => (#[] : Array Value))).get? (s.heap.objs.size + 1) = some (seqObj "list" #[] e1) := ⟨_, get?_update_seq hoa fun _ => #[]⟩
  have hkS : ((s1.heap.update (s.heap.objs.size + 1) (Obj.mapSeq fun _ => (#[] : Array Value))).push (seqObj "tuple" its.toArray 0)).objs.size = s1.heap.objs.size + 1 := by rw [size_push', Heap.size_update]
  have hZ : its.length ≤ sizeLine := by rw [← hli]; exact hz
  unfold ksk_tree
  refine wpAny_bind (listItems_at hoa rfl ?_)
  refine wpAny_bind (listUpdate_at hoa rfl ?_ (by rw [List.size_toArray]; exact hZ) (Nat.zero_le _))
  refine wpAny_bind (seqEpoch_at ho1 rfl ?_)
  refine wpAny_bind (wpAny_newTuple ?_ (by show its.length ≤ _; exact hZ))
  refine wpAny_bind (wpAny_newList ?_ (Nat.zero_le _))
  refine wpAny_holding ?_
  generalize hh2 : ((s1.heap.update (s.heap.objs.size + 1) (Obj.mapSeq fun _ => (#[] : Array Value))).push (seqObj "tuple" its.toArray 0)).push (seqObj "list" #[] 0) = h2
  have keep2 : ∀ b o, s.heap.get? b = some o → h2.get? b = some o := fun b o q => by
    have hb : b < s.heap.objs.size := Heap.lt_size q
    rw [← hh2]
    refine Heap.get?_push_of_some _ (Heap.get?_push_of_some _ ?_)
    rw [Heap.get?_update_other _ _ (Nat.ne_of_gt (Nat.lt_succ_of_lt hb)), hheap]
    exact copyHeap_old q
  have hsz : s.heap.objs.size ≤ s1.heap.objs.size := by omega
  have I1 : Inv X pins σ H { s1 with heap := h2 } := by
    rw [← hs1]
    exact I.kept (t' := s.toks) keep2
  have hHn : ∀ b, s.heap.objs.size ≤ b → H b = none := fun b hb => I.hok.fresh hb
  have ma : Mine X pins (s.heap.objs.size + 1) := mine_of I (Nat.le_succ _)
  have mk : Mine X pins (s1.heap.objs.size + 1) := mine_of I (by omega)
  have gk : h2.get? (s1.heap.objs.size + 1) = some (seqObj "list" #[] 0) := by
    rw [← hh2, ← hkS]
    exact Heap.get?_push_size _ rfl
  have ga : h2.get? (s.heap.objs.size + 1) = some (seqObj "list" #[] e1) := by
    rw [← hh2]
    exact Heap.get?_push_of_some _ (Heap.get?_push_of_some _ ho1)
  have I2 : Inv X (myPins pins (s1.heap.objs.size + 1) (s.heap.objs.size + 1) #[] 0 e1) σ H { s1 with heap := h2 } := I1.pins_of fun p hp => by
    rcases List.mem_cons.mp hp with z | z
    · rw [z]; exact ⟨gk, hHn _ (by omega), mk.loc, mk.fs, fun v q => by cases q⟩
    · rcases List.mem_cons.mp z with z | z
      · rw [z]; exact ⟨ga, hHn _ (Nat.le_succ _), ma.loc, ma.fs, fun v q => by cases q⟩
      · exact I1.pin p (List.mem_append_right _ z)
  rw [hkS]
  refine keyL_rest (X := X) (pins := pins) (σ := σ) (H := H) (s := { s1 with heap := h2 }) (kz := ks) I2 mk ma (Nat.ne_of_gt (Nat.lt_succ_of_lt ha)) (by rw [hlk, ← hlv, hli]) hZ (by omega) (fun i v kk hv hkk kA e H' t x' I' => ?_) fun H' t out c x' hn ko fin => ⟨rfl, ?_⟩
  · -- one key
    obtain ⟨w, hw, rw'⟩ : ∃ w, vs[i]? = some w ∧ RelV w v := by
      have hi : i < vs.length := by rw [hli]; exact (List.getElem?_eq_some_iff.mp hv).1
      obtain ⟨u, hu', ru'⟩ := rv.get (List.getElem?_eq_getElem hi)
      rw [hv] at hu'
      cases hu'
      exact ⟨_, List.getElem?_eq_getElem hi, ru'⟩
    obtain ⟨d, hd, rd⟩ := r.getV hw
    obtain ⟨io, hf⟩ := keysOf_at hk hd hkk
    have rd' : Rp B H' w d := rd.ex0 x'
    refine wpAny_mono (run_fn2 F (hr.in1.in1) hgd hbi I' (.cons rw' .nil) (Q := fun v' H2 => Ex0 H' H2 ∧ v' = .int kk) ⟨rfl, B, [.dat d], fun a hb => ⟨x'.dom (hB a hb).1, fun us z => ?_⟩, .cons rd' .nil, _, io, hf, fun v' H2 x2 rv2 => ⟨x2, by cases rv2; rfl⟩⟩) (fun u t' ⟨v', H2, I3, r3, x3, e3⟩ => ?_) fun _ _ z => z
    · cases e : H a with
      | none => exact (hB a hb).1 e
      | some o =>
        have := x' a o e
        rw [this] at z
        cases z
        exact (hB a hb).2 us e
    · subst e3
      obtain ⟨tk, rfl⟩ := r3
      exact ⟨H2, x3, I3, tk, rfl⟩
  · -- the end
    have eb := each_it (xs := xs) (ks := ks) rv hlv.symm (by rw [hlk]; exact hlv.symm)
    have ez := zip3_fst (xs := xs) (ks := ks) (vs := vs) hlv.symm (by rw [hlk]; exact hlv.symm)
    have ekz : ((xs.zip ks).zip vs).map (fun b => PyData.int b.1.2) = ks.map .int := by
      have e : ((xs.zip ks).zip vs).map (fun b => PyData.int b.1.2) = (((xs.zip ks).zip vs).map (·.1)).map fun p => PyData.int p.2 := by rw [List.map_map]; rfl
      rw [e, ez]
      have e4 : (xs.zip ks).map (fun p => PyData.int p.2) = ((xs.zip ks).map (·.2)).map .int := by rw [List.map_map]; rfl
      rw [e4, List.map_snd_zip (by omega)]
    have ko' : KeyedOut false (((xs.zip ks).zip vs).map fun b => PyData.int b.1.2) its out := by rw [ekz]; exact ko
    have eo := keyedOut_each (R := fun (u : Value) (b : It3) => RelV b.2 u) (fun b : It3 => PyData.int b.1.2) ko' eb
    generalize hS : ((xs.zip ks).zip vs).mergeSort (dataLe false fun b : It3 => PyData.int b.1.2) = S at eo
    have hv : Vals (S.map (·.2)) out := by
      have go : ∀ {us : List Value} {bs : List It3}, EachIs (fun (u : Value) (b : It3) => RelV b.2 u) us bs → Vals (bs.map (·.2)) us := fun {us bs} q => by
        induction q with
        | nil => exact .nil
        | cons h _ ih => exact .cons h ih
      exact go eo
    have rr : RpAll B H' (S.map (·.2)) (sortI xs ks) := by
      have e5 : sortI xs ks = S.map (·.1.1) := by
        unfold sortI
        have e6 : ((xs.zip ks).zip vs).mergeSort (dataLe false fun b : It3 => PyData.int b.1.2) = S := hS
        have e7 := List.map_mergeSort (r := dataLe false fun b : It3 => PyData.int b.1.2) (s := dataLe false fun p : PyData × Int => PyData.int p.2) (f := fun b : It3 => b.1) (l := (xs.zip ks).zip vs) (fun a _ b _ => rfl)
        rw [e6, ez] at e7
        rw [← e7, List.map_map]
        rfl
      rw [e5]
      have go : ∀ {bs : List It3}, (∀ b ∈ bs, Rp B H b.2 b.1.1) → RpAll B H' (bs.map (·.2)) (bs.map (·.1.1)) := fun {bs} hb => by
        induction bs with
        | nil => exact .nil
        | cons b bs ih => exact .cons ((hb b List.mem_cons_self).ex0 x') (ih fun y hy => hb y (List.mem_cons_of_mem _ hy))
      exact go fun b hb => rp3 r b (by rw [← hS] at hb; exact List.mem_mergeSort.mp hb)
    have hlen : (S.map (·.2)).length ≤ sizeLine := by
      rw [List.length_map, ← hS, List.length_mergeSort, List.length_zip, List.length_zip]
      omega
    exact ⟨.ref _, _, fin _ hv hlen, rfl, q H' _ _ x' hn (hHn _ (Nat.le_succ _)) rr⟩
variable {W : WX} {e : Expr} {l : Ls} {f : Fs} {k : Nat} {x : Str} {pos p p2 kpos : Pos} {b : Bool}
theorem n_sortK (c : CalM X.prog X.w X.K X.mg X.base k x (spM X.K X.mg 1 f)) (hr : Room (k + 2) X.A) (hgd : X.A.guards = some []) (hg : Gl X "sorted") (hm : X.mg "sorted" = none) (hgx : Gl X x) (h1 : PE X e (tL X.K X.mg W b false l)) (hdb : (x == ("__debug__" : Str)) = false := by decide)
    (he : backTo pos (starEach [e] X.env) = (false, eval e X.env) :: backTo pos (starEach [] X.env) := by rfl) (hpl : (backTo pos (starEach [e] X.env)).any (·.1) = false := by rfl) (na : starEach [e] X.env = (false, eval e X.env) :: starEach [] X.env := by rfl)
    (hall : (backToKw pos (keywordEach [⟨some (Str.ofString "key"), .Name x p2, kpos⟩] X.env)).all (·.1.isSome) = true := by rfl) (hnone : (backToKw pos (keywordEach [⟨some (Str.ofString "key"), .Name x p2, kpos⟩] X.env)).any (·.1.isNone) = false := by rfl)
    (hks : (backToKw pos (keywordEach [⟨some (Str.ofString "key"), .Name x p2, kpos⟩] X.env)).filterMap (·.1) = [Str.ofString "key"] := by rfl) :
    PE X (.Call (.Name "sorted" p) [e] [⟨some (Str.ofString "key"), .Name x p2, kpos⟩] pos) (tN X.K X.mg W (nSortK l f)) := by
  obtain ⟨fa, fd, ps, F, hmx, hkp, hbi⟩ := c.ex
  refine PE.imp (pe_callBK (cr_sortKM c hr hgd) hg hm (by decide +kernel) (pa_cons h1 pa_nil na) (pk_cons (pe_glob (v := .ref fa) hgx hmx rfl hdb) pk_nil) (by decide) (by decide) he hpl hall hnone hks) fun σ H Q ⟨F, R, A, ρ, rel, s⟩ => ?_
  refine ⟨F, R, A, ρ, rel, sat_mono (sat_bind s) fun xs ρ1 s1 A1 v H1 p1 rel1 k => ?_⟩
  obtain ⟨a, vs, rfl, r, q⟩ := k.lst
  split at s1
  · rename_i ks hk
    by_cases hz : xs.length ≤ maxSeq
    · rw [if_pos hz] at s1
      refine ⟨a, fa, vs, xs, ks, _, rfl, rfl, hmx, q, r, fun a z => ⟨rel1.dom a z, rel1.nt a z⟩, hk, hz, fun H' y outV x' hy hy0 rr => ?_⟩
      have rel2 := rel1.grow x'
      obtain ⟨y1, y2⟩ := fin_lst rel2 rr hy
      have p2 := p1.trans x'.stp
      exact s1 A1 y _ _ (p2.trans (Ex0.new hy).stp) y1 (rel2.fresh hy).1 (stp_none p2 hy) (rel2.fresh hy).2 upd_same y2
    · rw [if_neg hz] at s1
      exact s1.elim
  · exact s1.elim
end
end Mo
end
section
set_option autoImplicit false
set_option linter.all false
set_option Elab.async false
set_option maxHeartbeats 1000000
set_option maxRecDepth 100000
/-! MX: the rest: is of bools, name op= e, tuple.index, sorted of a tuple, a new list handed on. -/
namespace Mo
section
open PySem PySem.W PySem.Calls PyProof.Rows
variable {prog : Program} {w : World} {A : Around} {E : Value → Shared → Prop} {s : Shared}
theorem collect_tup {l : Addr} {vs : List Value} {Q : List Value → Shared → Prop} (hl : s.heap.IsTuple l vs.toArray)
    (h : Q vs { s with heap := (s.heap.push (seqObj "list" #[] 0)).update s.heap.objs.size (Obj.mapSeq (· ++ vs.toArray)) }) (hsz : vs.length ≤ sizeLine) :
    wpAny (model prog w) A (collect (.ref l)) Q E s := by
  obtain ⟨o, ho, hc, n, hd⟩ := id hl
  unfold collect
  refine wpAny_bind (wpAny_runValue (codeAny_builtin entry_proto_collect' ?_))
  show wpAny _ _ (do again (.builtin "list.__iadd__" ⟨[← newList [], .ref l], []⟩)) _ _ s
  refine wpAny_bind (wpAny_newList (wpAny_pure ⟨Code.quiet_builtin _ (by decide +kernel), codeAny_builtin entry_list_iadd' ?_⟩))
  show wpAny _ _ (Builtin.List.listExtendWith (.ref s.heap.objs.size) (.ref l) (.ref s.heap.objs.size)) _ _ { s with heap := s.heap.push (seqObj "list" #[] 0) }
  unfold Builtin.List.listExtendWith
  have ho' : (s.heap.push (seqObj "list" #[] 0)).get? l = some o := Heap.get?_push_of_some _ ho
  refine wpAny_bind (wpAny_typeOf (T := "tuple") ⟨o, ho', hc⟩ ?_)
  have ht : (Value.type "tuple" == Value.type "tuple") = true := by rfl
  rw [if_pos (by rw [ht]; simp)]
  refine wpAny_bind (listItems_at ho' hd ?_)
  refine wpAny_bind (listItems_at (xs := #[]) (n := 0) (Heap.get?_push_size _ rfl) rfl ?_)
  rw [if_neg (by simp)]
  refine wpAny_bind (listUpdate_at (xs := #[]) (n := 0) (Heap.get?_push_size _ rfl) rfl ?_ (Nat.zero_le _) (by show (#[] ++ vs.toArray).size ≤ sizeLine + 1; simp only [Array.size_append, List.size_toArray, List.length_nil]; omega))
  refine wpAny_pure ?_
  show wpAny (model prog w) A (do
      let o ← load s.heap.objs.size
      match o.data with
      | .seq xs _ => pure xs.toList
      | _ => unsupported "internal:collect") Q E { s with heap := (s.heap.push (seqObj "list" #[] 0)).update s.heap.objs.size (Obj.mapSeq (· ++ vs.toArray)) }
  refine wpAny_bind (wpAny_load (get?_update_seq (Heap.get?_push_size _ rfl) _) ?_)
  show wpAny _ _ (pure ((#[] : Array Value) ++ vs.toArray).toList) Q E _
  rw [show ((#[] : Array Value) ++ vs.toArray).toList = vs by simp]
  exact wpAny_pure h
theorem sorted_of_sortT {l : Addr} {vs : List Value} {kw : List (Str × Value)} {Q : Value → Shared → Prop} (hl : s.heap.IsTuple l vs.toArray) (hL : vs.length ≤ sizeLine) (ha1 : argsOk "sorted" ⟨[.ref l], kw⟩) (ha2 : ∀ x, argsOk "list.sort" ⟨[.ref x], kw⟩)
    (body : ∀ E' : Value → Shared → Prop, wpAny (model prog w) A.in1.in1 (Builtin.«list.sort» ⟨[.ref (s.heap.objs.size + 1)], kw⟩) (fun f s' => f = .done (.ret .none) ∧ Q (.ref (s.heap.objs.size + 1)) s') E' { s with heap := copyHeap s.heap vs }) :
    wpAny (model prog w) A (call (.builtin "sorted") [.ref l] kw) Q E s := by
  refine call_function_entry_kw kind_sorted plain_sorted entry_sorted ha1 ?_
  unfold Builtin.«sorted»
  refine wpAny_bind (m := checkCount "sorted" 1 1 _) (wpAny_pure ?_)
  refine wpAny_bind (collect_tup hl ?_ hL)
  refine wpAny_bind (wpAny_newList ?_ hL)
  have hsz : ((s.heap.push (seqObj "list" #[] 0)).update s.heap.objs.size (Obj.mapSeq (· ++ vs.toArray))).objs.size = s.heap.objs.size + 1 := by
    rw [Heap.size_update, size_push']
  show wpAny _ _ _ _ _ { s with heap := copyHeap s.heap vs }
  rw [hsz]
  refine wpAny_bind (wpAny_holding (wpAny_call_entry_kw slot_list_sort ⟨_, copyHeap_at s.heap vs, rfl⟩ entry_list_sort ?body (ha2 _)))
  case body =>
    show wpAny (model prog w) A.in1.in1 (Builtin.«list.sort» ⟨[.ref (s.heap.objs.size + 1)], kw⟩) _ _ _
    refine wpAny_mono (body _) (fun f s' hf => ?_) fun _ _ e => e
    obtain ⟨rfl, hq⟩ := hf
    exact ⟨_, rfl, wpAny_pure ⟨_, rfl, hq⟩⟩
theorem sorted_dataT {β : Type} {vs : List Value} {bs : List β} {enc : β → PyData} {R : Value → β → Prop} {l : Addr} {Q : Value → Shared → Prop} (hl : s.heap.IsTuple l vs.toArray) (e : EachIs R vs bs) (er : EachIs (fun v b => ∃ as, Reads s.heap v (enc b) as) vs bs) (hal : AllAlike (bs.map enc)) (hk : Sortable (bs.map enc)) (hL : bs.length ≤ sizeLine)
    (hu : ∀ b, b ∈ bs → A.units + 2 + (enc b).depth < cLine) (h : ∀ out, out.length = bs.length → EachIs R out (bs.mergeSort (dataLe false enc)) → Q (.ref (s.heap.objs.size + 1)) { s with heap := sortedAll s.heap vs (List.toArray out) }) :
    wpAny (model prog w) A (call (.builtin "sorted") [.ref l]) Q E s := by
  have er' : EachIs (fun v b => ∃ as, Reads (sortingHeap (copyHeap s.heap vs) (s.heap.objs.size + 1) vs) v (enc b) as) vs bs := er.mono fun _ _ ⟨as, r⟩ => ⟨as, PyProof.Rows.Reads.keeps (fun _ _ => sorting_copy_old) r⟩
  have S := SortsAt.data (prog := prog) (w := w) (A := A.in1.in1) (s := { s with heap := sortingHeap (copyHeap s.heap vs) (s.heap.objs.size + 1) vs }) (each_map (R := fun v d => ∃ as, Reads (sortingHeap (copyHeap s.heap vs) (s.heap.objs.size + 1) vs) v d as) enc er') hal hk (bound_map hu)
  exact sorted_of_sortT hl (by rw [e.length]; exact hL) (args_sorted1 _) (fun _ => args_list_sort _) fun _ => list_sort_vals (s := { s with heap := copyHeap s.heap vs }) (copyHeap_at s.heap vs) S (by rw [e.length]; exact hL)
    ⟨rfl, h _ (by rw [sortVals_length false rfl]; exact e.length) (sortVals_data false e er' hal)⟩
end
open PySem PySem.Spec L2
section
variable {X : Cx}
def rSortMA (K : PySem.W.Frag) : List V → Hp → VK → Prop := fun us H Q => ∃ a vs ds, us = [.ref a] ∧ (SqL K H a vs ∨ SqT K H a vs) ∧ DpAll K H vs ds ∧ sortOk ds = true ∧ ∀ p, H p = none → Q (.ref p) (upd H p (.lst ((sortBoth ds vs).map (·.2))))
theorem cr_sortMA (hu : X.A.units + 64 < cLine) : CallR X (.builtin "sorted") (rSortMA X.K) := by
  intro pins s σ H us ws Q I r ⟨a, vs, ds, e, hs, hd, ok, q⟩
  rcases hs with hs | hs
  · exact cr_sortM hu pins s σ H us ws Q I r ⟨a, vs, ds, e, hs, hd, ok, q⟩
  subst e
  obtain ⟨its, rv, hl, hz⟩ := I.tuple hs
  rw [Vals.ref1 r]
  obtain ⟨o1, o2, o3, o4⟩ := sortOk_at ok
  have hln := dpAll_len hd
  have ez := zip_fst hln
  obtain ⟨q1, q2⟩ := each_rel I hd rv
  have lz : (ds.zip vs).length = ds.length := by rw [List.length_zip, hln, Nat.min_self]
  refine sorted_dataT (enc := fun b : PyData × V => b.1) (show s.heap.IsTuple a its.toArray from hl) q1 q2 (by rw [ez]; exact o1) (by rw [ez]; exact o2) (by rw [lz]; exact o3) (fun b hb => ?_) fun out ho er => ?_
  · have hb' : b.1 ∈ ds := by rw [← ez]; exact List.mem_map.mpr ⟨b, hb, rfl⟩
    have := o4 _ hb'
    omega
  · obtain ⟨ep, he'⟩ := PyProof.Rows.sortedAll_at s.heap its out.toArray
    have hlen : ((sortBoth ds vs).map (·.2)).length ≤ sizeLine := by
      unfold sortBoth
      rw [List.length_map, List.length_mergeSort, lz]
      exact o3
    exact ⟨.ref _, upd H (s.heap.objs.size + 1) (.lst ((sortBoth ds vs).map (·.2))), I.laid (t' := s.toks) (fun _ _ => PyProof.Rows.sortedAll_old) (Nat.le_succ _) ⟨hlen, out, ep, vals_each er, he'⟩, rfl, q _ (I.hok.fresh (Nat.le_succ _))⟩
variable {W : WX} {e e1 e2 e3 : Expr} {es : List Expr} {l : Ls} {f g : Ex} {pos p apos : Pos} {i n k : Nat} {b c : Bool} {x : Str} {fs : Fs} {as : As}
/-- sorted of a list or a tuple -/
theorem n_sortedA (hu : X.A.units + 64 < cLine) (hg : Gl X "sorted") (hm : X.mg "sorted" = none) (h1 : PE X e (tL X.K X.mg W b c l)) (na : starEach [e] X.env = (false, eval e X.env) :: starEach [] X.env := by rfl) : PE X (.Call (.Name "sorted" p) [e] [] pos) (tN X.K X.mg W (nSorted l)) :=
  PE.imp (pe_callB (cr_sortMA hu) hg hm (by decide +kernel) (pa_cons h1 pa_nil na) (by decide) (by decide) na) fun σ H Q ⟨F, R, A, ρ, rel, s⟩ => by
    refine ⟨F, R, A, ρ, rel, sat_mono (sat_bind s) fun xs ρ1 s1 A1 v H1 p1 rel1 k => ?_⟩
    obtain ⟨a, vs, rfl, r, q⟩ := k.seq
    by_cases hz : sortOk xs = true
    · rw [if_pos hz] at s1
      refine ⟨a, vs, xs, rfl, q, r.dp, hz, fun y hy => ?_⟩
      obtain ⟨x1, x2⟩ := fin_lst rel1 (sortBoth_rp r) hy
      exact s1 A1 y _ _ (p1.trans (Ex0.new hy).stp) x1 (rel1.fresh hy).1 (stp_none p1 hy) (rel1.fresh hy).2 upd_same x2
    · rw [if_neg hz] at s1
      exact s1.elim
/-- is, is not of bools -/
theorem op_isB : OpR X (compareOp .Is) (fun x y H Q => ∃ a b, x = .bl a ∧ y = .bl b ∧ Q (.bl (decide (a = b))) H) := by
  intro pins s σ H x y v u Q I rx ry ⟨a, b, e1, e2, q⟩
  subst e1 e2
  cases rx
  cases ry
  exact PyProof.Rows.is_bool (fin_bl I q (by cases a <;> cases b <;> rfl))
theorem op_isnotB : OpR X (compareOp .IsNot) (fun x y H Q => ∃ a b, x = .bl a ∧ y = .bl b ∧ Q (.bl (!decide (a = b))) H) := by
  intro pins s σ H x y v u Q I rx ry ⟨a, b, e1, e2, q⟩
  subst e1 e2
  cases rx
  cases ry
  exact PyProof.Rows.isnot_bool (fin_bl I q (by cases a <;> cases b <;> rfl))
/-- name op= e -/
theorem s_augI (hN : X.N.Nodup) (hi : X.N[i]? = some x) (hx : Loc X.env.scope x) (he : PE X e (tE X.K X.mg W f)) (hf : X.fn x = true ∨ X.env.scope.names.lookup x = some .local := by first | exact .inl rfl | exact .inr rfl | assumption) :
    PS X (.AugAssign (.Name x p) .Add e pos) (tS X.K X.mg W [i] (sAugI i false f)) :=
  PS.imp (ps_aug hN hi hx he ip_add hf) fun D σ H ⟨F, R, A, ρ, rel, s⟩ => by
    unfold sAugI sAug at s
    split at s
    · rename_i a e1
      obtain ⟨v, e2, rv⟩ := rel.sl i _ e1
      have rv : Rp (Bd R A) H v a := rv
      refine ⟨v, e2, F, R, A, ρ, rel, sat_mono (sat_bind s) fun d ρ1 s1 A1 y H1 p1 rel1 r1 => ?_⟩
      obtain ⟨z, ez, s2⟩ := sat_lift (sat_bind s1)
      simp only [Bool.false_eq_true, if_false] at ez
      split at ez
      · cases ez
        cases rv
        cases r1
        exact ⟨_, _, rfl, rfl, s2 (own1 A1 i []) _ H1 (p1.trans (.sub own1_sub)) (rel1.putD (rel.lt e1) (.int _)) .set⟩
      · cases ez
    · exact s.elim
/-- f(new, ..): f changes the new list -/
theorem d_callQ (c : CalM X.prog X.w X.K X.mg X.base k x (spP X.K X.mg (n + 1) fs)) (hr : Room k X.A) (hgd : X.A.guards = some []) (hg : Gl X x) (hv : PE X e (tN X.K X.mg Wno l)) (ha : PA X es (tAs X.K X.mg Wno as)) (hdb : (x == ("__debug__" : Str)) = false := by decide)
    (he : starEach (e :: es) X.env = (false, eval e X.env) :: starEach es X.env := by rfl) (hpl : (backTo pos (starEach es X.env)).any (·.1) = false := by rfl) : PE X (.Call (.Name x p) (e :: es) [] pos) (tE X.K X.mg Wno (cCallQ n fs l as)) :=
  PE.imp (pe_callM c hr hgd hg (pa_cons hv ha he) hdb he hpl) fun σ H Q ⟨F, R, A, ρ, rel, s⟩ => by
    refine ⟨F, R, A, ρ, rel, sat_mono (sat_bind s) fun xs ρ0 s0 A0 a0 vs0 H0 p0 rel0 hn0 hq0 h00 hl0 r0 => ?_⟩
    refine ⟨F, _, A0, ρ0, rel0, sat_up (fun a z => .inl z) (sat_bind s0) fun svs ρ1 s1 A1 vs H1 p1 rel1 r1 => ?_⟩
    have hl1 := (p1.back hl0 fun i z => rel0.sep i a0 z (.inr rfl)).1
    have r01 := r0.stp p1
    by_cases hl : svs.length = n
    · rw [if_pos hl] at s1
      cases hf : fs (.own xs :: svs) with
      | stuck => rw [hf] at s1; exact s1.elim
      | exc y io => rw [hf] at s1; exact s1.elim
      | ret d ys =>
        rw [hf] at s1
        have hB : Bd (fun a => R a ∨ a = a0) A1 a0 := .inl (.inr rfl)
        refine ⟨by rw [List.length_cons, argsR_len r1, hl], Bd (fun a => R a ∨ a = a0) A1, a0, vs0, vs, xs, svs, rfl, fun a z => ⟨rel1.dom a z, rel1.nt a z⟩, hB, hl1, r01, r1, d, ys, hf, fun v H2 zs x2 hz rz rv => ?_⟩
        have x3 : Ex0 H1 (upd H2 a0 (.lst vs0)) := fun b o eb => by
          by_cases hb : b = a0
          · subst hb; rw [upd_same, ← hl1, eb]
          · rw [upd_ne hb]; exact x2 b o eb hb
        have e2 : upd (upd H2 a0 (.lst vs0)) a0 (.lst zs) = H2 := by
          funext b
          by_cases hb : b = a0
          · subst hb; rw [upd_same, hz]
          · rw [upd_ne hb, upd_ne hb]
        have rel2 := (rel1.grow x3).writeR (D := a0) (o := .lst zs) (.inr rfl) h00
        rw [e2] at rel2
        have p3 : Stp A H A1 H2 := by
          have q := ((p0.trans p1).trans x3.stp).updNew (D := a0) (o := .lst zs) hq0
          rw [e2] at q
          exact q
        refine s1 A1 v H2 p3 (rel2.less fun a z => .inl z) (rv.imp (fun a z => ?_) fun _ _ e _ => e)
        rcases z with z | z
        · exact .inl (.inl z)
        · exact .inr z
    · rw [if_neg hl] at s1
      exact s1.elim
/-- a, b = (x, y), the names of any kind: by way of the pair -/
theorem s_parC {i j : Nat} {x y : Str} {r r' : Rs} {px py pt : Pos} {kt k2 pt2} (hc : X.calm = true) (hN : X.N.Nodup) (hi : X.N[i]? = some x) (hj : X.N[j]? = some y) (hx : Loc X.env.scope x) (hy : Loc X.env.scope y) (h1 : PE X e1 (tR X.K X.mg W r)) (h2 : PE X e2 (tR X.K X.mg W r'))
    (hfx : X.fn x = true) (hfy : X.fn y = true)
    (hw : swappedStores [.Tuple [.Name x px, .Name y py] kt pt] (.Tuple [e1, e2] k2 pt2) X.env = pure none := by rfl)
    (hs : swapsWithSole [.Tuple [.Name x px, .Name y py] kt pt] (.Tuple [e1, e2] k2 pt2) pos.line X.env = pure false := by rfl)
    (na : starEach [e1, e2] X.env = (false, eval e1 X.env) :: starEach [e2] X.env := by rfl) (na2 : starEach [e2] X.env = (false, eval e2 X.env) :: starEach [] X.env := by rfl) :
    PS X (.Assign [.Tuple [.Name x px, .Name y py] kt pt] (.Tuple [e1, e2] k2 pt2) pos) (tS X.K X.mg W [i, j] (sPar i j r r')) :=
  PS.imp (ps_asg (pe_tup (pa_cons h1 (pa_cons h2 pa_nil na2) na)) (pg_tup (n := 2) hc (pgs_cons (pg_name hN hi hx (.inl hfx)) (pgs_cons (pg_name hN hj hy (.inl hfy)) pgs_nil rfl) rfl) rfl rfl) hs hw rfl) fun D σ H ⟨F, R, A, ρ, rel, s⟩ => by
    refine ⟨F, R, A, ρ, rel, sat_mono (sat_bind s) fun sv ρ1 s1 A1 l1 v H1 p1 rel1 hl1 hn1 r1 => ?_⟩
    refine ⟨F, _, A1, ρ1, rel1, sat_up (fun a z => .inl z) (sat_bind s1) fun sw ρ2 s2 A2 l2 w H2 p2 rel2 hl2 hn2 r2 => ⟨by show 2 ≤ sizeLine; decide, fun p hp => ?_⟩⟩
    have x3 : Ex0 H2 (upd H2 p (.tup [v, w])) := Ex0.new hp
    refine ⟨p, [v, w], rfl, SqT.of upd_same, rfl, v, [w], rfl, w, [], rfl, rfl, ?_⟩
    have rel2' : Rel X.K X.mg F (fun a => (R a ∨ a ∈ l2) ∨ a ∈ l1) A2 ρ2 σ (upd H2 p (.tup [v, w])) := (rel2.grow x3).less fun a z => by
      rcases z with (z | z) | z
      · exact .inl (.inl z)
      · exact .inr z
      · exact .inl (.inr z)
    have r1' : RepS X.K X.mg (Bd (fun a => (R a ∨ a ∈ l2) ∨ a ∈ l1) A2) (upd H2 p (.tup [v, w])) l1 v sv := by
      refine RepS.keyed (stp_key (fun a z => ?_) (p2.trans x3.stp)) r1 fun a ha o e => x3 a o (p2.back e fun i z => rel1.sep i a z (.inr ha)).1
      rcases z with (z | z) | z
      · exact .inl (.inl z)
      · exact .inr (hl2 a z).2.2
      · exact .inl (.inr z)
    obtain ⟨A3, q1, k1⟩ := put_any (i := i) rel2' (fun a z => ⟨fun y => y.elim (hl1 a z).1 fun y => (hl2 a y).1 (.inr z), (hl1 a z).2.1⟩) hn1 r1'
    have r2' : RepS X.K X.mg (Bd (fun a => R a ∨ a ∈ l2) A3) (upd H2 p (.tup [v, w])) l2 w sw := RepS.imp r2 (fun a z => by
      rcases z with z | ⟨m, z⟩
      · exact .inl (z.elim (fun z => .inl (.inl z)) .inr)
      · rcases k1 m a z with ⟨n, z⟩ | z
        · exact .inr ⟨n, z⟩
        · exact .inl (.inl (.inr z))) (fun a o e _ => x3 a o e) fun a _ o e => x3 a o e
    obtain ⟨A4, q2, k2⟩ := put_any (i := j) q1 (fun a z => ⟨fun y => (hl2 a z).1 (.inl y), (hl2 a z).2.1⟩) hn2 r2'
    refine s2 A4 _ _ ⟨((p1.trans p2).trans x3.stp).ext, fun m a z => ?_⟩ q2 (Kp.set.trans Kp.set)
    rcases k2 m a z with ⟨n, z⟩ | z
    · rcases k1 n a z with ⟨n, z⟩ | z
      · exact ((p1.trans p2).trans x3.stp).own n a z
      · exact .inr (hl1 a z).2.2
    · exact .inr (stp_none p1 (hl2 a z).2.2)
end
end Mo
end
section
set_option autoImplicit false
set_option linter.all false
set_option Elab.async false
set_option maxHeartbeats 1000000
/-! MB: what the printed proofs use: checks of scopes, defs by name. -/
namespace Mo
open PyProof.Rows hiding St
open PySem PySem.Spec L2
def blkB (N : List Str) (sc scope : Scope) (own : List (Str × Nat)) : Bool :=
  decide (scope.kind = .function) && scope.names.all (fun y => decide (scope.names.lookup y.1 = some y.2)) && own.all (fun p => decide (N[p.2]? = some p.1)) &&
    scope.names.all (fun y => !decide (y.2 = .free) || decide (sc.names.lookup y.1 = some .cell) || decide (sc.names.lookup y.1 = some .free)) &&
    scope.names.all (fun y => !(decide (y.2 = .local) || decide (y.2 = .cell)) || decide (y.1 ∈ own.map (·.1)) || decide (y.1 ∉ N))
theorem blk_of {N : List Str} {sc scope : Scope} {own : List (Str × Nat)} (h : blkB N sc scope own = true) : BlkOk N sc scope own := by
  unfold blkB at h
  simp only [Bool.and_eq_true, List.all_eq_true, decide_eq_true_eq, Bool.or_eq_true, Bool.not_eq_true', decide_eq_false_iff_not] at h
  obtain ⟨⟨⟨⟨h1, h2⟩, h3⟩, h4⟩, h5⟩ := h
  refine ⟨h1, fun y hy => h2 y hy, fun p hp => h3 p hp, fun y hy e => ?_, fun y hy e => ?_⟩
  · rcases h4 y hy with (q | q) | q
    · exact absurd e q
    · exact .inl q
    · exact .inr q
  · rcases h5 y hy with (q | q) | q
    · exact absurd e (by rcases e with e | e <;> simp [e] at q)
    · exact .inl q
    · exact .inr q
abbrev FnP (K : PySem.W.Frag) (x : Str) (st : Stmt) (f : Addr) (fd : FuncData) : Prop := FunD K x x (defArgs st) (defBody st) (defScope st) [] [] f fd
/-- the def st is what the name x finds -/
structure Df (K : PySem.W.Frag) (mg : Str → Option Value) (x : Str) (st : Stmt) : Prop where
  ex : ∃ f fd, FnP K x st f fd ∧ mg x = some (.ref f)
section
variable {P : Program} {w : World} {K : PySem.W.Frag} {mg : Str → Option Value} {base : Heap} {k n m : Nat} {x : Str} {st : Stmt} {N ps : List Str} {ts : List Nat} {b : Ss}
/-- how a def's arguments bind, all given by place -/
abbrev BindsB (st : Stmt) (x : Str) (ps : List Str) : Prop := ∀ (kV doc pm : Value) (an : Option Addr) (cdv ct : Value) (us : List Value), us.length = ps.length → bindArgs (PySem.W.fnOf x x (defArgs st) (defBody st) (defScope st) .none kV doc pm an cdv ct) ⟨us, []⟩ = pure (ps.zip us)
abbrev BodyD (P : Program) (w : World) (K : PySem.W.Frag) (mg : Str → Option Value) (base : Heap) (k : Nat) (x : Str) (st : Stmt) (N : List Str) (ts : List Nat) (b : Ss) : Prop :=
  ∀ (f : Addr) (cdv : Value) (A : Around) (outer : List Env) (s : Shared) (H : Hp) (E : XK), Room k (A.deeper (envOfC x (defScope st) s.heap.objs.size f cdv)) → (A.deeper (envOfC x (defScope st) s.heap.objs.size f cdv)).guards = some [] →
    PSs (cxOf CX0 P w K mg base N x (defScope st) f cdv A outer s H E) (defBody st) (tS K mg Wno ts b)
theorem cal_def (D : Df K mg x st) (S : FnScope N ps (defScope st)) (hn : ps.length = n) (hN : N.length - n = m) (hb : BindsB st x ps) (body : BodyD P w K mg base k x st N ts b) : CalM P w K mg base (k + 1) x (spM K mg n (bodyOf b m false)) := by
  obtain ⟨f, fd, F, hm⟩ := D.ex
  exact ⟨f, fd, ps, ok_def F S hn hN (fun cdv A outer s H E hr hgd => body f cdv A outer s H E hr hgd), hm, F.kp, F.bindsN hb⟩
theorem cal_defN (D : Df K mg x st) (S : FnScope N ps (defScope st)) (hn : ps.length = n) (hN : N.length - n = m) (hb : BindsB st x ps) (body : BodyD P w K mg base k x st N ts b) : CalM P w K mg base (k + 1) x (spN K mg n (bodyOfN b m)) := by
  obtain ⟨f, fd, F, hm⟩ := D.ex
  exact ⟨f, fd, ps, ok_defN F S hn hN (fun cdv A outer s H E hr hgd => body f cdv A outer s H E hr hgd), hm, F.kp, F.bindsN hb⟩
theorem cal_defP (D : Df K mg x st) (S : FnScope N ps (defScope st)) (hn : ps.length = n) (hN : N.length - n = m) (h0 : 0 ∉ ts) (hb : BindsB st x ps) (body : BodyD P w K mg base k x st N ts b) : CalM P w K mg base (k + 1) x (spP K mg n (bodyOf b m true)) := by
  obtain ⟨f, fd, F, hm⟩ := D.ex
  exact ⟨f, fd, ps, ok_defP F S hn hN h0 (fun cdv A outer s H E hr hgd => body f cdv A outer s H E hr hgd), hm, F.kp, F.bindsN hb⟩
/-- no fuel: nothing is promised -/
theorem cal_zero (D : Df K mg x st) (hn : ps.length = n) (hb : BindsB st x ps) : CalM P w K mg base k x (spM K mg n fun _ => .stuck) := by
  obtain ⟨f, fd, F, hm⟩ := D.ex
  refine ⟨f, fd, ps, ⟨fun vs H Q E h => h.1.trans hn.symm, fun A outer s H args us vs Q E _ _ _ _ _ h => ?_⟩, hm, F.kp, F.bindsN hb⟩
  obtain ⟨_, _, _, _, _, _, _, z, _⟩ := h
  cases z
theorem cal_zeroP (D : Df K mg x st) (hn : ps.length = n) (hb : BindsB st x ps) : CalM P w K mg base k x (spP K mg n fun _ => .stuck) := by
  obtain ⟨f, fd, F, hm⟩ := D.ex
  refine ⟨f, fd, ps, ⟨fun vs H Q E h => h.1.trans hn.symm, fun A outer s H args us vs Q E _ _ _ _ _ h => ?_⟩, hm, F.kp, F.bindsN hb⟩
  obtain ⟨_, _, _, _, _, _, _, _, _, _, _, _, _, _, _, z, _⟩ := h
  cases z
end
theorem op_ltA {X : Cx} (hu : X.A.units + 64 < cLine) : OpR X (compareOp .Lt) (fun x y H Q => rI0 (fun i j => .bl (decide (i < j))) x y H Q ∨ rLtT X.K x y H Q) := OpR.or op_lt (op_ltT (by omega))
theorem Room.wide {k : Nat} {A : Around} (r : Room k A) : A.units + 128 < cLine := by have := r.un; omega
theorem Room.one {k : Nat} {A : Around} (r : Room k A) : A.units + 1 < cLine := by have := r.un; omega
end Mo
end
section
set_option autoImplicit false
set_option linter.all false
set_option Elab.async false
set_option maxHeartbeats 1000000
/-! MX2: three names at once. -/
namespace Mo
open PySem PySem.Spec L2
section
variable {X : Cx} {W : WX} {e1 e2 e3 : Expr} {pos : Pos} {i j k : Nat} {x y z : Str} {r r' r'' : Rs} {px py pz pt : Pos} {kt k2 : Nat} {pt2 : Pos}
theorem s_par3C {kt k2 pt2} (hc : X.calm = true) (hN : X.N.Nodup) (hi : X.N[i]? = some x) (hj : X.N[j]? = some y) (hk : X.N[k]? = some z) (hx : Loc X.env.scope x) (hy : Loc X.env.scope y) (hz : Loc X.env.scope z) (h1 : PE X e1 (tR X.K X.mg W r)) (h2 : PE X e2 (tR X.K X.mg W r')) (h3 : PE X e3 (tR X.K X.mg W r''))
    (hfx : X.fn x = true) (hfy : X.fn y = true) (hfz : X.fn z = true)
    (hw : swappedStores [.Tuple [.Name x px, .Name y py, .Name z pz] kt pt] (.Tuple [e1, e2, e3] k2 pt2) X.env = pure none := by rfl)
    (hs : swapsWithSole [.Tuple [.Name x px, .Name y py, .Name z pz] kt pt] (.Tuple [e1, e2, e3] k2 pt2) pos.line X.env = pure false := by rfl)
    (na : starEach [e1, e2, e3] X.env = (false, eval e1 X.env) :: starEach [e2, e3] X.env := by rfl) (na2 : starEach [e2, e3] X.env = (false, eval e2 X.env) :: starEach [e3] X.env := by rfl) (na3 : starEach [e3] X.env = (false, eval e3 X.env) :: starEach [] X.env := by rfl) :
    PS X (.Assign [.Tuple [.Name x px, .Name y py, .Name z pz] kt pt] (.Tuple [e1, e2, e3] k2 pt2) pos) (tS X.K X.mg W [i, j, k] (sPar3 i j k r r' r'')) :=
  PS.imp (ps_asg (pe_tup (pa_cons h1 (pa_cons h2 (pa_cons h3 pa_nil na3) na2) na)) (pg_tup (n := 3) hc (pgs_cons (pg_name hN hi hx (.inl hfx)) (pgs_cons (pg_name hN hj hy (.inl hfy)) (pgs_cons (pg_name hN hk hz (.inl hfz)) pgs_nil rfl) rfl) rfl) rfl rfl) hs hw rfl) fun D σ H ⟨F, R, A, ρ, rel, s⟩ => by
    refine ⟨F, R, A, ρ, rel, sat_mono (sat_bind s) fun sv ρ1 s1 A1 l1 v H1 p1 rel1 hl1 hn1 r1 => ?_⟩
    refine ⟨F, _, A1, ρ1, rel1, sat_up (fun a z => .inl z) (sat_bind s1) fun sw ρ2 s2 A2 l2 w H2 p2 rel2 hl2 hn2 r2 => ?_⟩
    refine ⟨F, _, A2, ρ2, rel2, sat_up (fun a z => .inl (.inl z)) (sat_bind s2) fun su ρ3 s3 A3 l3 u H3 p3 rel3 hl3 hn3 r3 => ⟨by show 3 ≤ sizeLine; decide, fun p hp => ?_⟩⟩
    have x4 : Ex0 H3 (upd H3 p (.tup [v, w, u])) := Ex0.new hp
    have p13 := (p2.trans p3).trans x4.stp
    have p23 := p3.trans x4.stp
    refine ⟨p, [v, w, u], rfl, SqT.of upd_same, rfl, v, [w, u], rfl, w, [u], rfl, u, [], rfl, rfl, ?_⟩
    have f1 : ∀ a ∈ l1, ¬ R a ∧ a ∉ l2 ∧ a ∉ l3 := fun a z => ⟨(hl1 a z).1, fun y => (hl2 a y).1 (.inr z), fun y => (hl3 a y).1 (.inl (.inr z))⟩
    have f2 : ∀ a ∈ l2, ¬ R a ∧ a ∉ l3 := fun a z => ⟨fun y => (hl2 a z).1 (.inl y), fun y => (hl3 a y).1 (.inr z)⟩
    have f3 : ∀ a ∈ l3, ¬ R a := fun a z y => (hl3 a z).1 (.inl (.inl y))
    have relA : Rel X.K X.mg F (fun a => ((R a ∨ a ∈ l3) ∨ a ∈ l2) ∨ a ∈ l1) A3 ρ3 σ (upd H3 p (.tup [v, w, u])) := (rel3.grow x4).less fun a z => by
      rcases z with ((z | z) | z) | z
      · exact .inl (.inl (.inl z))
      · exact .inr z
      · exact .inl (.inr z)
      · exact .inl (.inl (.inr z))
    have r1' : RepS X.K X.mg (Bd (fun a => ((R a ∨ a ∈ l3) ∨ a ∈ l2) ∨ a ∈ l1) A3) (upd H3 p (.tup [v, w, u])) l1 v sv := by
      refine RepS.keyed (stp_key (fun a z => ?_) p13) r1 fun a ha o e => (p13.back e fun i z => rel1.sep i a z (.inr ha)).1
      rcases z with ((z | z) | z) | z
      · exact .inl (.inl z)
      · exact .inr (stp_none p2 (hl3 a z).2.2)
      · exact .inr (hl2 a z).2.2
      · exact .inl (.inr z)
    obtain ⟨A4, q1, k1⟩ := put_any (i := i) relA (fun a z => ⟨fun y => by
      rcases y with (y | y) | y
      · exact (f1 a z).1 y
      · exact (f1 a z).2.2 y
      · exact (f1 a z).2.1 y, (hl1 a z).2.1⟩) hn1 r1'
    have r2' : RepS X.K X.mg (Bd (fun a => (R a ∨ a ∈ l3) ∨ a ∈ l2) A4) (upd H3 p (.tup [v, w, u])) l2 w sw := by
      refine RepS.keyed (B := Bd (fun a => (R a ∨ a ∈ l1) ∨ a ∈ l2) A2) (fun a o e n => ?_) r2 fun a ha o e => (p23.back e fun i z => rel2.sep i a z (.inr ha)).1
      have q := stp_key (R' := fun a => ((R a ∨ a ∈ l1) ∨ a ∈ l2) ∨ a ∈ l3) (fun a z => z.imp id fun z => (hl3 a z).2.2) p23 a o e n
      refine ⟨fun z => q.1 ?_, q.2⟩
      rcases z with ((z | z) | z) | ⟨m, z⟩
      · exact .inl (.inl (.inl (.inl z)))
      · exact .inl (.inr z)
      · exact .inl (.inl (.inr z))
      · rcases k1 m a z with ⟨n, z⟩ | z
        · exact .inr ⟨n, z⟩
        · exact .inl (.inl (.inl (.inr z)))
    obtain ⟨A5, q2, k2'⟩ := put_any (i := j) q1 (fun a z => ⟨fun y => by
      rcases y with y | y
      · exact (f2 a z).1 y
      · exact (f2 a z).2 y, (hl2 a z).2.1⟩) hn2 r2'
    have r3' : RepS X.K X.mg (Bd (fun a => R a ∨ a ∈ l3) A5) (upd H3 p (.tup [v, w, u])) l3 u su := RepS.imp r3 (fun a z => by
      rcases z with z | ⟨m, z⟩
      · exact .inl (z.elim (fun z => .inl (.inl (.inl z))) .inr)
      · rcases k2' m a z with ⟨n, z⟩ | z
        · rcases k1 n a z with ⟨n, z⟩ | z
          · exact .inr ⟨n, z⟩
          · exact .inl (.inl (.inl (.inr z)))
        · exact .inl (.inl (.inr z))) (fun a o e _ => x4 a o e) fun a _ o e => x4 a o e
    obtain ⟨A6, q3, k3⟩ := put_any (i := k) q2 (fun a z => ⟨f3 a z, (hl3 a z).2.1⟩) hn3 r3'
    refine s3 A6 _ _ ⟨(p1.trans p13).ext, fun m a z => ?_⟩ q3 (Kp.set.trans (Kp.set.trans Kp.set))
    rcases k3 m a z with ⟨n, z⟩ | z
    · rcases k2' n a z with ⟨n, z⟩ | z
      · rcases k1 n a z with ⟨n, z⟩ | z
        · exact (p1.trans p13).own n a z
        · exact .inr (hl1 a z).2.2
      · exact .inr (stp_none p1 (hl2 a z).2.2)
    · exact .inr (stp_none p1 (stp_none p2 (hl3 a z).2.2))
end
end Mo
end
section
set_option autoImplicit false
set_option linter.all false
set_option Elab.async false
set_option maxHeartbeats 1000000
/-! MX3: three names at once. -/
namespace Mo
open PySem PySem.Spec L2
section
variable {X : Cx} {W : WX} {e1 e2 e3 : Expr} {pos : Pos} {i j k : Nat} {x y z : Str} {r r' r'' : Rs} {px py pz pt : Pos} {kt k2 : Nat} {pt2 : Pos}
theorem s_par3 {kt k2 pt2} (hc : X.calm = true) (hN : X.N.Nodup) (hi : X.N[i]? = some x) (hj : X.N[j]? = some y) (hk : X.N[k]? = some z) (hij : i ≠ j) (hik : i ≠ k) (hjk : j ≠ k)
    (hx : X.env.scope.names.lookup x = some .local) (hy : X.env.scope.names.lookup y = some .local) (hz : X.env.scope.names.lookup z = some .local) (h1 : PE X e1 (tR X.K X.mg W r)) (h2 : PE X e2 (tR X.K X.mg W r')) (h3 : PE X e3 (tR X.K X.mg W r''))
    (hw : swappedStores [.Tuple [.Name x px, .Name y py, .Name z pz] kt pt] (.Tuple [e1, e2, e3] k2 pt2) X.env = pure (some [x, y, z]))
    (hs : swapsWithSole [.Tuple [.Name x px, .Name y py, .Name z pz] kt pt] (.Tuple [e1, e2, e3] k2 pt2) pos.line X.env = pure false := by rfl)
    (na : starEach [e1, e2, e3] X.env = (false, eval e1 X.env) :: starEach [e2, e3] X.env := by rfl) (na2 : starEach [e2, e3] X.env = (false, eval e2 X.env) :: starEach [e3] X.env := by rfl) (na3 : starEach [e3] X.env = (false, eval e3 X.env) :: starEach [] X.env := by rfl) :
    PS X (.Assign [.Tuple [.Name x px, .Name y py, .Name z pz] kt pt] (.Tuple [e1, e2, e3] k2 pt2) pos) (tS X.K X.mg W [i, j, k] (sPar3 i j k r r' r'')) :=
  PS.imp (ps_par3 hc hN hi hj hk hij hik hjk hx hy hz (pa_cons h1 (pa_cons h2 (pa_cons h3 pa_nil na3) na2) na) hw hs) fun D σ H ⟨F, R, A, ρ, rel, s⟩ => by
    refine ⟨F, R, A, ρ, rel, sat_mono (sat_bind s) fun sv ρ1 s1 A1 l1 v H1 p1 rel1 hl1 hn1 r1 => ?_⟩
    refine ⟨F, _, A1, ρ1, rel1, sat_up (fun a z => .inl z) (sat_bind s1) fun sw ρ2 s2 A2 l2 w H2 p2 rel2 hl2 hn2 r2 => ?_⟩
    refine ⟨F, _, A2, ρ2, rel2, sat_up (fun a z => .inl (.inl z)) (sat_bind s2) fun su ρ3 s3 A3 l3 u H3 p3 rel3 hl3 hn3 r3 => ⟨v, w, u, rfl, ?_⟩⟩
    have p13 := p2.trans p3
    have p23 := p3
    have f1 : ∀ a ∈ l1, ¬ R a ∧ a ∉ l2 ∧ a ∉ l3 := fun a z => ⟨(hl1 a z).1, fun y => (hl2 a y).1 (.inr z), fun y => (hl3 a y).1 (.inl (.inr z))⟩
    have f2 : ∀ a ∈ l2, ¬ R a ∧ a ∉ l3 := fun a z => ⟨fun y => (hl2 a z).1 (.inl y), fun y => (hl3 a y).1 (.inr z)⟩
    have f3 : ∀ a ∈ l3, ¬ R a := fun a z y => (hl3 a z).1 (.inl (.inl y))
    have relA : Rel X.K X.mg F (fun a => ((R a ∨ a ∈ l3) ∨ a ∈ l2) ∨ a ∈ l1) A3 ρ3 σ H3 := rel3.less fun a z => by
      rcases z with ((z | z) | z) | z
      · exact .inl (.inl (.inl z))
      · exact .inr z
      · exact .inl (.inr z)
      · exact .inl (.inl (.inr z))
    have r1' : RepS X.K X.mg (Bd (fun a => ((R a ∨ a ∈ l3) ∨ a ∈ l2) ∨ a ∈ l1) A3) H3 l1 v sv := by
      refine RepS.keyed (stp_key (fun a z => ?_) p13) r1 fun a ha o e => (p13.back e fun i z => rel1.sep i a z (.inr ha)).1
      rcases z with ((z | z) | z) | z
      · exact .inl (.inl z)
      · exact .inr (stp_none p2 (hl3 a z).2.2)
      · exact .inr (hl2 a z).2.2
      · exact .inl (.inr z)
    obtain ⟨A4, q1, k1⟩ := put_any (i := i) relA (fun a z => ⟨fun y => by
      rcases y with (y | y) | y
      · exact (f1 a z).1 y
      · exact (f1 a z).2.2 y
      · exact (f1 a z).2.1 y, (hl1 a z).2.1⟩) hn1 r1'
    have r2' : RepS X.K X.mg (Bd (fun a => (R a ∨ a ∈ l3) ∨ a ∈ l2) A4) H3 l2 w sw := by
      refine RepS.keyed (B := Bd (fun a => (R a ∨ a ∈ l1) ∨ a ∈ l2) A2) (fun a o e n => ?_) r2 fun a ha o e => (p23.back e fun i z => rel2.sep i a z (.inr ha)).1
      have q := stp_key (R' := fun a => ((R a ∨ a ∈ l1) ∨ a ∈ l2) ∨ a ∈ l3) (fun a z => z.imp id fun z => (hl3 a z).2.2) p23 a o e n
      refine ⟨fun z => q.1 ?_, q.2⟩
      rcases z with ((z | z) | z) | ⟨m, z⟩
      · exact .inl (.inl (.inl (.inl z)))
      · exact .inl (.inr z)
      · exact .inl (.inl (.inr z))
      · rcases k1 m a z with ⟨n, z⟩ | z
        · exact .inr ⟨n, z⟩
        · exact .inl (.inl (.inl (.inr z)))
    obtain ⟨A5, q2, k2'⟩ := put_any (i := j) q1 (fun a z => ⟨fun y => by
      rcases y with y | y
      · exact (f2 a z).1 y
      · exact (f2 a z).2 y, (hl2 a z).2.1⟩) hn2 r2'
    have r3' : RepS X.K X.mg (Bd (fun a => R a ∨ a ∈ l3) A5) H3 l3 u su := RepS.imp r3 (fun a z => by
      rcases z with z | ⟨m, z⟩
      · exact .inl (z.elim (fun z => .inl (.inl (.inl z))) .inr)
      · rcases k2' m a z with ⟨n, z⟩ | z
        · rcases k1 n a z with ⟨n, z⟩ | z
          · exact .inr ⟨n, z⟩
          · exact .inl (.inl (.inl (.inr z)))
        · exact .inl (.inl (.inr z))) (fun _ _ e _ => e) fun _ _ _ e => e
    obtain ⟨A6, q3, k3⟩ := put_any (i := k) q2 (fun a z => ⟨f3 a z, (hl3 a z).2.1⟩) hn3 r3'
    refine s3 A6 _ _ ⟨(p1.trans p13).ext, fun m a z => ?_⟩ q3 (Kp.set.trans (Kp.set.trans Kp.set))
    rcases k3 m a z with ⟨n, z⟩ | z
    · rcases k2' n a z with ⟨n, z⟩ | z
      · rcases k1 n a z with ⟨n, z⟩ | z
        · exact (p1.trans p13).own n a z
        · exact .inr (hl1 a z).2.2
      · exact .inr (stp_none p1 (hl2 a z).2.2)
    · exact .inr (stp_none p1 (stp_none p2 (hl3 a z).2.2))
end
end Mo
end
section
set_option autoImplicit false
set_option linter.all false
set_option Elab.async false
set_option maxHeartbeats 1000000
/-! MT: defs that raise an own class without a value; a try around one call. -/
namespace Mo
open PyProof.Rows hiding St
open PySem PySem.Spec L2

/-- as FnM; an own exception may leave -/
structure FnE (P : Program) (w : World) (K : PySem.W.Frag) (mg : Str → Option Value) (base : Heap) (k : Nat) (f : Addr) (fd : FuncData) (ps : List Str) (sp : Sp) : Prop where
  len : ∀ vs H Q E, sp vs H Q E → vs.length = ps.length
  run : ∀ (A : Around) (outer : List Env) (s : Shared) (H : Hp) (args : Args) (us : List Value) (vs : List V) (Q : VK) (E : XK), Room k A → A.guards = some [] → Env0 P w K mg base A outer s H → BindsTo s fd args (ps.zip us) → Vals vs us → sp vs H Q E →
    codeAny (model P w) A (.call (.ref f) args) (CR (L2.CX P w) outer P w H s Q E) s
theorem FnE.mono {P : Program} {w : World} {K : PySem.W.Frag} {mg : Str → Option Value} {base : Heap} {j k : Nat} {f : Addr} {fd : FuncData} {ps : List Str} {sp : Sp} (F : FnE P w K mg base j f fd ps sp) (h : j ≤ k) : FnE P w K mg base k f fd ps sp :=
  ⟨F.len, fun A outer s H args us vs Q E hr => F.run A outer s H args us vs Q E (hr.mono h)⟩
theorem fnE_of {P : Program} {w : World} {K : PySem.W.Frag} {mg : Str → Option Value} {base : Heap} {k : Nat} {f : Addr} {name qual : Str} {params : Arguments} {body : List Stmt} {scope : Scope} {dvs : List V} {kws : List (Str × V)} {fd : FuncData} {N ps : List Str} {sp : Sp}
    (FD : FunD K name qual params body scope dvs kws f fd) (S : FnScope N ps scope) (len : ∀ vs H Q E, sp vs H Q E → vs.length = ps.length)
    (hbody : ∀ (cdv : Value) (A : Around) (outer : List Env) (s : Shared) (H : Hp) (vs : List V) (Q : VK) (E : XK), Room k (A.deeper (envOfC qual scope s.heap.objs.size f cdv)) → (A.deeper (envOfC qual scope s.heap.objs.size f cdv)).guards = some [] → sp vs H Q E →
      ∃ t, PSs (cxOf (L2.CX P w) P w K mg base N qual scope f cdv A outer s H E) body t ∧ t { nx := fun _ H' => Q .non H', rt := Q } (L2.start N vs) H) :
    FnE P w K mg base (k + 1) f fd ps sp := by
  obtain ⟨oc, od, dV, kV, doc, pm, an, cdv, ct, osl, rfl, lk, hcd, _, _⟩ := FD.ex
  refine ⟨len, fun A outer s H args us vs Q E hr hgd e0 hb r hsp => ?_⟩
  have hl := len _ _ _ _ hsp
  have kin : K.In s.heap := e0.mod.kin.keeps fun b o e => (e0.bs b o e).1
  have hkind : ∀ y ∈ ps.zip us, scope.names.lookup y.1 = some .local ∨ (scope.names.lookup y.1 = some .cell ∧ ((cellsFrom (s.heap.objs.size + 1) scope.names []).lookup y.1).isSome = true) := fun ⟨n, v⟩ hy =>
    (S.par n (List.of_mem_zip hy).1).imp_right fun q => ⟨q, PySem.W.cellsFrom_some _ _ _ (.inl q)⟩
  refine codeAny_call_function hr.depth (kin _ _ lk) rfl S.co S.gen rfl (PySem.W.codeRec_of kin hcd) (hb _ _ _ _ ?_)
  refine wpAny_newFunctionEnv_cells S.kind hkind fun env he s1 x => ?_
  subst he
  refine ⟨(e0.mod.nolimit.keeps fun b o e => (e0.bs b o e).1).keeps x.toInCall.keep, codeAny_func ?_⟩
  obtain ⟨t, ht, hq⟩ := hbody cdv A outer s H vs Q E (hr.deeper _) hgd hsp
  refine wpAny_mono (ht.run [] s1 (L2.start N vs) H _ (inv_start S hr.hd e0 hl r x) hq) (fun fl s' hs => ?_) fun e s' hs => hs
  have fin : ∀ {σ' : L2.St} {H' : Hp} {v : V} {u : Value}, Inv (cxOf (L2.CX P w) P w K mg base N qual scope f cdv A outer s H E) [] σ' H' s' → RelV v u → Q v H' → CE outer P w H s Q u s' :=
    fun {σ' H' v u} J rv q => ⟨v, H', J.os, J.bare, J.base, J.hok, rv, q⟩
  cases fl with
  | ret u =>
    obtain ⟨v, σ', H', J, rv, q⟩ := hs
    exact fin J rv q
  | next =>
    obtain ⟨σ', H', J, q⟩ := hs
    exact fin (v := V.non) (u := Value.none) J rfl q
  | brk => exact hs.elim fun _ z => z.elim fun _ z => z.2.elim
  | cont => exact hs.elim fun _ z => z.elim fun _ z => z.2.elim
structure CalE (P : Program) (w : World) (K : PySem.W.Frag) (mg : Str → Option Value) (base : Heap) (k : Nat) (x : Str) (sp : Sp) : Prop where
  ex : ∃ f fd ps, FnE P w K mg base k f fd ps sp ∧ mg x = some (.ref f) ∧ PySem.W.keepIn K (.ref f) = true ∧ Binds K fd ps []
theorem CalE.mono {P : Program} {w : World} {K : PySem.W.Frag} {mg : Str → Option Value} {base : Heap} {j k : Nat} {x : Str} {sp : Sp} (c : CalE P w K mg base j x sp) (h : j ≤ k) : CalE P w K mg base k x sp :=
  let ⟨f, fd, ps, F, a, b, d⟩ := c.ex
  ⟨f, fd, ps, F.mono h, a, b, d⟩
/-- a promise of a def that may raise a class of the module's, without a value -/
def spX (K : PySem.W.Frag) (mg : Str → Option Value) (n : Nat) (f : Fs) : Sp := fun vs H Q E => vs.length = n ∧ ∃ (B : Addr → Prop) (svs : List SV), (∀ a, B a → H a ≠ none ∧ ∀ us, H a ≠ some (.tup us)) ∧ ArgsR K mg B H vs svs ∧ match f svs with
  | .stuck => False
  | .ret d _ => ∀ v H', Ex0 H H' → Rp B H' v d → Q v H'
  | .exc x _ => x.val = none ∧ ∀ C H', mg x.cls = some (.ref C) → Ex0 H H' → E (.ref C) none H'
/-- what a body wants of an exception -/
def WofE (mg : Str → Option Value) (E : XK) : WX := fun x F R A ρ σ H => x.val = none ∧ ∀ C, mg x.cls = some (.ref C) → E (.ref C) none H
section
variable {P : Program} {w : World} {K : PySem.W.Frag} {mg : Str → Option Value} {base : Heap} {k n m : Nat} {f : Addr} {name qual : Str} {params : Arguments} {body : List Stmt} {scope : Scope} {dvs : List V} {kws : List (Str × V)} {fd : FuncData} {N ps : List Str} {ts : List Nat} {b : Ss} {x : Str} {st : Stmt}
abbrev BodyE (P : Program) (w : World) (K : PySem.W.Frag) (mg : Str → Option Value) (base : Heap) (k : Nat) (x : Str) (st : Stmt) (N : List Str) (ts : List Nat) (b : Ss) : Prop :=
  ∀ (f : Addr) (cdv : Value) (A : Around) (outer : List Env) (s : Shared) (H : Hp) (E : XK), Room k (A.deeper (envOfC x (defScope st) s.heap.objs.size f cdv)) → (A.deeper (envOfC x (defScope st) s.heap.objs.size f cdv)).guards = some [] →
    PSs (cxOf (L2.CX P w) P w K mg base N x (defScope st) f cdv A outer s H E) (defBody st) (tS K mg (WofE mg E) ts b)
theorem ok_defE (F : FnP K x st f fd) (S : FnScope N ps (defScope st)) (hn : ps.length = n) (hN : N.length - n = m) (body : BodyE P w K mg base k x st N ts b) : FnE P w K mg base (k + 1) f fd ps (spX K mg n (bodyOf b m false)) := by
  refine fnE_of F S (fun vs H Q E h => h.1.trans hn.symm) fun cdv A outer s H vs Q E hr hgd ⟨hl, B, svs, hB, r, q⟩ => ⟨_, body f cdv A outer s H E hr hgd, ?_⟩
  have rel : Rel K mg ⟨H, fun _ => False⟩ B (fun _ => []) (svs.map some ++ List.replicate m none) (L2.start N vs) H := by
    have := rel_start (N := N) r hB
    rw [hl, hN] at this
    exact this
  refine ⟨_, B, _, _, rel, ?_⟩
  have ex : ∀ {R' : Addr → Prop} {A' : Nat → List Addr} {ρ' : En} {σ' : L2.St} {H' : Hp}, Rel K mg ⟨H, fun _ => False⟩ R' A' ρ' σ' H' → Ex0 H H' := fun rl a o e => rl.fr a o e id
  have up : ∀ {A' : Nat → List Addr} {H' : Hp} {v : V} {d : PyData}, Rp (Bd B A') H' v d → Rp B H' v d := fun h => h.imp (fun a z => .inl z) fun _ _ e _ => e
  unfold bodyOf at q
  generalize b (svs.map some ++ List.replicate m none) = o at q ⊢
  cases o with
  | stuck => exact q.elim
  | exc x ρ =>
    have q : x.val = none ∧ ∀ C H', mg x.cls = some (.ref C) → Ex0 H H' → E (.ref C) none H' := q
    exact fun R' A' σ' H' k rl => ⟨q.1, fun C hc => q.2 C H' hc (ex rl)⟩
  | ok fl ρ =>
    cases fl with
    | nx => exact fun A' σ' H' p rl kp => q .non H' (ex rl) .non
    | ret d' => exact fun A' σ' H' p rl kp v rv => q v H' (ex rl) (up rv)
    | brk => exact q.elim
    | ct => exact q.elim
    | rtn d => exact q.elim
theorem cal_defE (D : Df K mg x st) (S : FnScope N ps (defScope st)) (hn : ps.length = n) (hN : N.length - n = m) (hb : BindsB st x ps) (body : BodyE P w K mg base k x st N ts b) : CalE P w K mg base (k + 1) x (spX K mg n (bodyOf b m false)) := by
  obtain ⟨f, fd, F, hm⟩ := D.ex
  exact ⟨f, fd, ps, ok_defE F S hn hN body, hm, F.kp, F.bindsN hb⟩
/-- where it does not raise -/
theorem FnE.toM {s : Fs} (F : FnE P w K mg base k f fd ps (spX K mg n s)) : FnM P w K mg base k f fd ps (spM K mg n s) := by
  have lenM : ∀ vs H Q E, spM K mg n s vs H Q E → spX K mg n s vs H Q (fun _ _ _ => False) := fun vs H Q E ⟨h1, B, svs, h2, h3, d, io, hf, q⟩ => ⟨h1, B, svs, h2, h3, by rw [hf]; exact q⟩
  refine ⟨fun vs H Q E h => F.len _ _ _ _ (lenM vs H Q E h), fun A outer s H args us vs Q E hr hgd e0 hbd r h => ?_⟩
  refine codeAny_mono (F.run A outer s H args us vs Q _ hr hgd e0 hbd r (lenM vs H Q E h)) fun res s' hq => ?_
  cases res with
  | ok fl => cases fl <;> exact hq
  | error e =>
    obtain ⟨_, _, _, _, _, _, _, _, _, _, _, _, z⟩ := hq
    exact z.elim
theorem CalE.toM {s : Fs} (c : CalE P w K mg base k x (spX K mg n s)) : CalM P w K mg base k x (spM K mg n s) :=
  let ⟨f, fd, ps, F, hm, hk, hb⟩ := c.ex
  ⟨f, fd, ps, F.toM, hm, hk, hb⟩
end
def noX (f : Fs) : Fs := fun s => match f s with
  | .exc _ _ => .stuck
  | r => r
theorem CalM.noX {P : Program} {w : World} {K : PySem.W.Frag} {mg : Str → Option Value} {base : Heap} {k n : Nat} {x : Str} {f : Fs} (c : CalM P w K mg base k x (spM K mg n f)) : CalM P w K mg base k x (spM K mg n (noX f)) :=
  c.imp fun vs H Q E ⟨h1, B, svs, h2, h3, d, io, hf, q⟩ => ⟨h1, B, svs, h2, h3, d, io, by
    unfold Mo.noX at hf
    split at hf
    · cases hf
    · exact hf, q⟩
section
variable {X : Cx} {W : WX} {k n i j : Nat} {x y z : Str} {f : Fs} {p pos : Pos} {e : Expr} {es : List Expr} {as : As}
theorem sp_argsW {Q : VK} {F : Fm} {R : Addr → Prop} {A : Nat → List Addr} {ρ : En} {σ : L2.St} {H : Hp} (rel : Rel X.K X.mg F R A ρ σ H) (s : sat (WW X.K X.mg W F R) (fun d ρ' => ∀ A' v H', Stp A H A' H' → Rel X.K X.mg F R A' ρ' σ H' → Rp (Bd R A') H' v d → Q v H') (cCall n (noX f) as ρ)) :
    tAs X.K X.mg W as σ H fun vs H1 => spM X.K X.mg n (noX f) vs H1 Q E0 :=
  ⟨F, R, A, ρ, rel, sat_mono (sat_bind s) fun svs ρ1 s0 A1 vs H1 p1 rel1 r1 => by
    by_cases hl : svs.length = n
    · rw [if_pos hl] at s0
      cases hf : noX f svs with
      | stuck => rw [hf] at s0; exact s0.elim
      | exc x io =>
        unfold noX at hf
        split at hf
        · cases hf
        · rename_i h; exact (h _ _ hf).elim
      | ret d io =>
        rw [hf] at s0
        exact ⟨(argsR_len r1).trans hl, _, svs, fun a z => ⟨rel1.dom a z, rel1.nt a z⟩, r1, d, io, hf, fun v H2 x2 rv => s0 A1 v H2 (p1.trans x2.stp) (rel1.grow x2) rv⟩
    · rw [if_neg hl] at s0
      exact s0.elim⟩
/-- a call of a def that raises nothing, where others may raise -/
theorem d_callW (c : CalM X.prog X.w X.K X.mg X.base k x (spM X.K X.mg n f)) (hr : Room k X.A) (hgd : X.A.guards = some []) (hg : Gl X x) (ha : PA X (e :: es) (tAs X.K X.mg W as)) (hdb : (x == ("__debug__" : Str)) = false := by decide)
    (he : starEach (e :: es) X.env = (false, eval e X.env) :: starEach es X.env := by rfl) (hpl : (backTo pos (starEach es X.env)).any (·.1) = false := by rfl) : PE X (.Call (.Name x p) (e :: es) [] pos) (tE X.K X.mg W (cCall n (noX f) as)) :=
  PE.imp (pe_callM c.noX hr hgd hg ha hdb he hpl) fun σ H Q ⟨F, R, A, ρ, rel, s⟩ => sp_argsW rel s
/-- what a class of the module must say, to be raised by its bare name -/
structure ExCl (K : PySem.W.Frag) (mg : Str → Option Value) (B newId initId : String) (bmB : List Value) (x : Str) : Prop where
  ex : ∃ C, mg x = some (.ref C) ∧ PySem.W.keepIn K (.ref C) = true ∧ PySem.W.excIn K C bmB newId = true ∧ PySem.W.subIn K (.ref C) (.type "BaseException") = some true ∧ PySem.W.typeIn K (.ref C) = some (.type "type")
theorem pmk_own0 {C : Addr} {bmB : List Value} {B newId initId : String} (F : ExcBaseFacts B newId initId bmB) (q : PySem.W.excIn X.K C bmB newId = true) (gC : X.mg x = some (.ref C)) (kC : PySem.W.keepIn X.K (.ref C) = true) (r : Raises X (.ref C)) (hg : Gl X x)
    (hdb : (x == ("__debug__" : Str)) = false := by decide) (hs : starEach [] X.env = [] := by rfl) : PMk X (.Call (.Name x p) [] [] pos) (fun σ H Q => Q (.ref C) none H) := by
  intro pins s σ H Q I h
  refine wpAny_Call_Name_kw (ld_glob I hg gC ?_ hdb)
  refine PySem.W.callWith_K0 I.kIn kC ?_
  show wpAny _ _ (call (.ref C) []) _ _ _
  obtain ⟨bm, N, nm, qn, bs, hdct, sn, sub, ab, col, dd, k0, k1, k2, k3, k5, mN, hC, hN, hni, T⟩ := exc_obj I.kIn q
  refine wpAny_call_exc_subT F T hC hN hni (fun h' e hm => ?_) (by show 0 ≤ sizeLine; omega)
  exact mk_of I hm r h (I.hok.gone hm.new)
theorem s_raise0 {B newId initId : String} {bmB : List Value} {E : XK} {rpos : Pos} (F : ExcBaseFacts B newId initId bmB) (c : ExCl X.K X.mg B newId initId bmB x) (hc : X.calm = true) (tk : Takes X (fun cls d _ H => E cls d H)) (hg : Gl X x) (hdb : (x == ("__debug__" : Str)) = false := by decide) (hs : starEach [] X.env = [] := by rfl) :
    PS X (.Raise (some (.Call (.Name x p) [] [] pos)) none rpos) (tS X.K X.mg (WofE X.mg E) [] (sRaise x aNil)) := by
  obtain ⟨C, h1, h2, h3, h4, h5⟩ := c.ex
  refine PS.imp (ps_raise hc tk (pmk_own0 F h3 h1 h2 (raises_own h4 h5) hg hdb hs)) fun D σ H ⟨F, R, A, ρ, rel, s⟩ => ?_
  have s : WW X.K X.mg (WofE X.mg E) F R ⟨x, none⟩ ρ := s
  exact (s R A σ H (fun _ z => z) rel).2 C h1
end
end Mo
end
section
set_option autoImplicit false
set_option linter.all false
set_option Elab.async false
set_option maxHeartbeats 1000000
/-! MT2: try: told = f(..) / except C as e: told = isinstance(e, D). -/
namespace Mo
open PyProof.Rows hiding St
open PySem PySem.Spec L2

/-- e in slot i, told in slot j -/
def sTryIs (i j n : Nat) (f : Fs) (as : As) (xn : Str) (v : Bool) : Ss := fun ρ => match as ρ with
  | .ok svs ρ => if svs.length = n then (match f svs with
    | .ret d _ => .ok .nx (ρ.set j (some (.dat d)))
    | .exc e _ => if e.cls = xn ∧ e.val = none ∧ i < ρ.length ∧ j < ρ.length then .ok .nx ((ρ.set j (some (.dat (.bool v)))).set i none) else .stuck
    | .stuck => .stuck) else .stuck
  | _ => .stuck
section
variable {X : Cx} {W : WX} {k n i j : Nat} {x y z : Str} {f : Fs} {p pos : Pos} {e : Expr} {es : List Expr} {as : As} {sp : Sp} {t : TA}
theorem run_fnE {Wx : L2.WX} {fa : Addr} {fd : FuncData} {ps : List Str} {pins : List (Addr × Obj)} {σ : L2.St} {H : Hp} {s : Shared} {Q : VK} {us : List Value} {vs : List V} (F : FnE X.prog X.w X.K X.mg X.base k fa fd ps sp) (hr : Room k X.A) (hgd : X.A.guards = some []) (hb : Binds X.K fd ps []) (tk : Takes X Wx)
    (I : Inv X pins σ H s) (r : Vals vs us) (h : sp vs H Q fun cls d H' => Wx cls d σ H') : wpAny (model X.prog X.w) X.A (call (.ref fa) us) (EP X pins σ Q) X.xe s := by
  have hl : (us ++ []).length = ps.length := by rw [List.append_nil, ← r.length]; exact F.len _ _ _ _ h
  have hbs := hb s us I.kIn hl
  rw [List.append_nil] at hbs
  refine wpAny_call (codeAny_mono (F.run X.A X.stack s H ⟨us, []⟩ us vs Q _ hr hgd I.env0 hbs r h) fun r s' hq => ?_)
  cases r with
  | error e => exact tk e s' (XE.of_call I (fun _ _ _ h => h) hq)
  | ok fl =>
    cases fl with
    | ret u => exact I.after hq
    | next => exact False.elim hq
    | brk => exact False.elim hq
    | cont => exact False.elim hq
def tCallE (sp : Sp) (Wx : L2.WX) (t : TA) : TE := fun σ H Q => t σ H fun vs H1 => sp vs H1 Q fun cls d H' => Wx cls d σ H'
theorem pe_callE {Wx : L2.WX} (c : CalE X.prog X.w X.K X.mg X.base k x sp) (hr : Room k X.A) (hgd : X.A.guards = some []) (tk : Takes X Wx) (hg : Gl X x) (ha : PA X (e :: es) t) (hdb : (x == ("__debug__" : Str)) = false := by decide)
    (he : starEach (e :: es) X.env = (false, eval e X.env) :: starEach es X.env := by rfl) (hpl : (backTo pos (starEach es X.env)).any (·.1) = false := by rfl) : PE X (.Call (.Name x p) (e :: es) [] pos) (tCallE sp Wx t) := by
  obtain ⟨f, fd, ps, F, hm, hk, hb⟩ := c.ex
  refine ⟨fun pins s σ H Q I h => ?_⟩
  refine wpAny_Call_Name_kw (ld_glob I hg hm ?_ hdb)
  exact PySem.W.callWith_K (h₀ := X.base) I.ok.mod.kin hk (thn (ha.run pos pins s σ H _ I h) fun us s1 ⟨vs, H1, I1, r, q⟩ => ⟨I1.kIn, run_fnE F hr hgd hb tk I1 r q⟩) he hpl
/-- what the classes must say: xn is caught by its own name, and is a y -/
structure ExIs (K : PySem.W.Frag) (mg : Str → Option Value) (xn y : Str) : Prop where
  ex : ∃ C D, mg xn = some (.ref C) ∧ mg y = some (.ref D) ∧ PySem.W.exmOne K (.ref C) (.ref C) = some true ∧ ExcC K C ∧ PySem.W.kitOne K (.ref C) (.ref D) = some true
theorem putB {K : PySem.W.Frag} {mg : Str → Option Value} {F : Fm} {R : Addr → Prop} {A : Nat → List Addr} {ρ : En} {σ : L2.St} {H : Hp} {v : V} {d : PyData} (rel : Rel K mg F R A ρ σ H) (r : Rp (Bd R A) H v d) (hj : j < σ.length) :
    Rel K mg F R (own1 A j []) (ρ.set j (some (.dat d))) (σ.set j (some v)) H := rel.putD hj r
theorem clr {K : PySem.W.Frag} {mg : Str → Option Value} {F : Fm} {R : Addr → Prop} {A : Nat → List Addr} {ρ : En} {σ : L2.St} {H : Hp} (rel : Rel K mg F R A ρ σ H) : Rel K mg F R A (ρ.set i none) (σ.set i none) H :=
  rel.forget (by simp [rel.len]) fun l sv h => by
    by_cases e : i = l
    · subst e
      rw [List.getElem?_set] at h
      split at h
      · split at h <;> cases h
      · rename_i z; exact absurd rfl z
    · rw [List.getElem?_set_ne e] at h
      exact ⟨h, fun v hv => by rw [List.getElem?_set_ne e]; exact hv⟩
theorem s_tryIs {xn en told : Str} {p1 p2 p3 p4 p5 pos1 pos2 pos3 pos' np pos0 : Pos} (c : CalE X.prog X.w X.K X.mg X.base k x (spX X.K X.mg n f)) (hr : Room k X.A) (hgd : X.A.guards = some []) (hs : X.stack = X.env :: X.outer) (hf : X.env.frame = some X.env.locals) (hN : X.N.Nodup)
    (hi : X.N[i]? = some en) (hj : X.N[j]? = some told) (hij : i ≠ j) (hle : X.env.kindOf en = some .local) (hlt : X.env.kindOf told = some .local) (exi : ExIs X.K X.mg xn y) (gx : Gl X x) (gxn : Gl X xn) (gy : Gl X y) (gis : Gl X "isinstance") (his : X.mg "isinstance" = none)
    (ha : ∀ pn xe, PA (X.tr pn xe) (e :: es) (tAs X.K X.mg Wno as))
    (hv : Vis X.env.scope en) (hle2 : X.env.scope.names.lookup told = some .local)
    (d1 : (x == ("__debug__" : Str)) = false := by decide) (d2 : (xn == ("__debug__" : Str)) = false := by decide) (d3 : (y == ("__debug__" : Str)) = false := by decide) (d4 : (en == ("__debug__" : Str)) = false := by decide) (d5 : (en == ("__classdict__" : Str)) = false := by decide)
    (he : starEach (e :: es) X.env = (false, eval e X.env) :: starEach es X.env := by rfl) (hpl : (backTo pos (starEach es X.env)).any (·.1) = false := by rfl) (sw : swapsWith (.Call (.Name x p) (e :: es) [] pos) (some (.Name told p1)) pos1.line X.env = pure false := by rfl)
    (na : starEach [.Name en p4, .Name y p5] X.env = (false, eval (.Name en p4) X.env) :: starEach [.Name y p5] X.env := by rfl) (nb : starEach [.Name y p5] X.env = (false, eval (.Name y p5) X.env) :: starEach [] X.env := by rfl) (hpl2 : (backTo pos2 (starEach [.Name y p5] X.env)).any (·.1) = false := by rfl)
    (sw2 : swapsWith (.Call (.Name "isinstance" p3) [.Name en p4, .Name y p5] [] pos2) (some (.Name told p2)) pos3.line X.env = pure false := by rfl) :
    PS X (.Try [.Assign [.Name told p1] (.Call (.Name x p) (e :: es) [] pos) pos1] [.ExceptHandler (some (.Name xn np)) (some en) [.Assign [.Name told p2] (.Call (.Name "isinstance" p3) [.Name en p4, .Name y p5] [] pos2) pos3] pos'] [] [] pos0)
      (tS X.K X.mg W [j, i] (sTryIs i j n f as xn true)) := by
  obtain ⟨C, D, hC, hD, hex, hcl, hki⟩ := exi.ex
  refine PS.imp (ps_try_as (x := xn) (n := en) (c := .ref C) (i := i) (Wout := fun _ _ _ _ => False) (tb := fun Wx => tAsg (tCallE (spX X.K X.mg n f) Wx (tAs X.K X.mg Wno as)) (gName j))
    (ts := fun a cls d D' σ H => cls = .ref C ∧ d = none ∧ σ[i]? = some (some (.ref a)) ∧ D'.nx (σ.set j (some (.bl true))) H)
    hs hf hN hi hle ⟨gxn, d2, .inl hC⟩ takes0 (fun Wx pn xe tk po => ?_) (fun a oe cls d pn hz hfl => ?_)) fun D' σ H s => ?_
  · exact pss_one (ps_set (X := X.tr pn xe) hN hj (.inl hlt) (pe_callE (X := X.tr pn xe) c hr hgd tk gx (ha pn xe) d1 he hpl) sw (.inr hle2))
  · by_cases hc : cls = .ref C ∧ d = none
    · obtain ⟨rfl, rfl⟩ := hc
      refine pss_one (PS.imp (ps_set (X := X.suite a ((a, oe) :: pn)) hN hj (.inl hlt) (pe_callB (call_isE hcl hz hfl) gis his (by decide +kernel) (pa_cons (pe_var (i := i) hi hv d4 d5) (pa_cons (pe_glob (v := .ref D) gy hD rfl d3) pa_nil nb) na) (by decide) (by decide) na hpl2) sw2 (.inr hle2)) fun D' σ H q => ?_)
      obtain ⟨_, _, q1, q2⟩ := q
      exact ⟨.ref a, q1, .ref D, .ref D, true, rfl, fun u z => z, hki, q2⟩
    · exact PSs.imp (pss_one ps_never) fun D' σ H q => hc ⟨q.1, q.2.1⟩
  · obtain ⟨F, R, A, ρ, rel, s⟩ := s
    refine ⟨F, R, A, ρ, rel, ?_⟩
    unfold sTryIs at s
    cases has : as ρ with
    | stuck => rw [has] at s; exact s.elim
    | exc x ρ1 => rw [has] at s; exact s.elim
    | ok svs ρ1 =>
      rw [has] at s
      intro A1 vs H1 p1 rel1 r1
      dsimp only at s
      by_cases hl : svs.length = n
      · rw [if_pos hl] at s
        refine ⟨(argsR_len r1).trans hl, _, svs, fun a z => ⟨rel1.dom a z, rel1.nt a z⟩, r1, ?_⟩
        cases hfs : f svs with
        | stuck => rw [hfs] at s; exact s.elim
        | ret d io =>
          rw [hfs] at s
          intro v H2 x2 rv
          show D'.nx (σ.set j (some v)) H2
          have rel2 := rel1.grow x2
          have p2 := p1.trans x2.stp
          by_cases hjl : j < σ.length
          · exact s (own1 A1 j []) _ H2 (stp_own1 p2 fun a z => nomatch z) (putB rel2 rv hjl) (Kp.set.mono fun t h => by simp at h; simp [h])
          · have e1 : σ.set j (some v) = σ := List.set_eq_of_length_le (by omega)
            have e2 : ρ1.set j (some (.dat d)) = ρ1 := List.set_eq_of_length_le (by rw [rel1.len]; omega)
            dsimp only at s
            rw [e2] at s
            rw [e1]
            exact s A1 σ H2 p2 rel2 .refl
        | exc ex io =>
          rw [hfs] at s
          dsimp only at s
          by_cases hq : ex.cls = xn ∧ ex.val = none ∧ i < ρ1.length ∧ j < ρ1.length
          · rw [if_pos hq] at s
            obtain ⟨h1, h2, h3, h4⟩ := hq
            rw [rel1.len] at h3 h4
            refine ⟨h2, fun C' H2 hC' x2 => ?_⟩
            rw [h1, hC] at hC'
            cases hC'
            refine ⟨true, hex, fun _ a na => ⟨rfl, rfl, by rw [List.getElem?_set_self h3], ?_⟩, fun z => by cases z⟩
            show D'.nx ((((σ.set i (some (.ref a))).set j (some (.bl true)))).set i none) H2
            have e1 : (((σ.set i (some (.ref a))).set j (some (V.bl true)))).set i none = (σ.set j (some (V.bl true))).set i none := by
              rw [List.set_comm _ _ hij, List.set_set]
            rw [e1]
            have rel2 := rel1.grow x2
            have p2 := p1.trans x2.stp
            exact s (own1 A1 j []) _ H2 (stp_own1 p2 fun a z => nomatch z) (clr (putB rel2 (.bl true) h4)) ((Kp.set (i := j)).trans (Kp.set (i := i)))
          · rw [if_neg hq] at s
            exact s.elim
      · rw [if_neg hl] at s
        exact s.elim
end
end Mo
end
section
set_option autoImplicit false
set_option linter.all false
set_option Elab.async false
set_option maxHeartbeats 1000000
/-! MKW: calls with all arguments by name. -/
namespace Mo
open PyProof.Rows hiding St
open PySem PySem.Spec L2

/-- how the values stand, by the parameters: as written | turned about -/
def turnIf {α : Type} (rev : Bool) (l : List α) : List α := if rev then l.reverse else l
/-- a def that a name finds, called by the names ks -/
structure CalK (P : Program) (w : World) (K : PySem.W.Frag) (mg : Str → Option Value) (base : Heap) (k : Nat) (x : Str) (ks : List Str) (rev : Bool) (sp : Sp) : Prop where
  ex : ∃ f fd ps, FnM P w K mg base k f fd ps sp ∧ mg x = some (.ref f) ∧ PySem.W.keepIn K (.ref f) = true ∧ ps.length = ks.length ∧ ∀ (s : Shared) (ws : List Value), K.In s.heap → ws.length = ks.length → BindsTo s fd ⟨[], ks.zip ws⟩ (ps.zip (turnIf rev ws))
theorem CalK.mono {P : Program} {w : World} {K : PySem.W.Frag} {mg : Str → Option Value} {base : Heap} {j k : Nat} {x : Str} {ks : List Str} {rev : Bool} {sp : Sp} (c : CalK P w K mg base j x ks rev sp) (h : j ≤ k) : CalK P w K mg base k x ks rev sp :=
  let ⟨f, fd, ps, F, a, b, d, e⟩ := c.ex
  ⟨f, fd, ps, F.mono h, a, b, d, e⟩
section
variable {P : Program} {w : World} {K : PySem.W.Frag} {mg : Str → Option Value} {base : Heap} {k n : Nat} {x : Str} {st : Stmt} {ks ps : List Str} {rev : Bool} {sp : Sp}
/-- a call by names, from one by places: the def's frame is the same -/
theorem byName (D : Df K mg x st) (hks : ks.length = ps.length)
    (hb : ∀ (kV doc pm : Value) (an : Option Addr) (cdv ct : Value) (ws : List Value), ws.length = ks.length → bindArgs (PySem.W.fnOf x x (defArgs st) (defBody st) (defScope st) .none kV doc pm an cdv ct) ⟨[], ks.zip ws⟩ = pure (ps.zip (turnIf rev ws)))
    (c : ∀ f fd, FnP K x st f fd → mg x = some (.ref f) → FnM P w K mg base k f fd ps sp) : CalK P w K mg base k x ks rev sp := by
  obtain ⟨f, fd, F, hm⟩ := D.ex
  refine ⟨f, fd, ps, c f fd F hm, hm, F.kp, hks.symm, fun s ws _ hl => ?_⟩
  obtain ⟨oc, od, dV, kV, doc, pm, an, cdv, ct, osl, rfl, lk, hcd, hD, hK⟩ := F.ex
  rcases hD with ⟨_, rfl⟩ | ⟨e, _⟩
  · exact .of_eq (hb kV doc pm an cdv ct ws hl)
  · exact absurd rfl e
end
theorem paired_rev {α β : Type} {r : α → β → Prop} : ∀ {xs : List α} {ys : List β}, Paired r xs ys → Paired r xs.reverse ys.reverse := by
  intro xs ys h
  have app : ∀ {a : List α} {b : List β} {c : List α} {d : List β}, Paired r a b → Paired r c d → Paired r (a ++ c) (b ++ d) := by
    intro a b c d h1 h2
    induction h1 with
    | nil => exact h2
    | cons z _ ih => exact .cons z ih
  induction h with
  | nil => exact .nil
  | cons z _ ih =>
    rw [List.reverse_cons, List.reverse_cons]
    exact app ih (.cons z .nil)
theorem paired_turn {α β : Type} {r : α → β → Prop} {rev : Bool} {xs : List α} {ys : List β} (h : Paired r xs ys) : Paired r (turnIf rev xs) (turnIf rev ys) := by
  unfold turnIf
  cases rev with
  | true => exact paired_rev h
  | false => exact h
theorem vals_app : ∀ {a : List V} {b : List Value} {c : List V} {d : List Value}, Vals a b → Vals c d → Vals (a ++ c) (b ++ d)
  | _, _, _, _, .nil, h => h
  | _, _, _, _, .cons z r, h => .cons z (vals_app r h)
theorem vals_rev : ∀ {a : List V} {b : List Value}, Vals a b → Vals a.reverse b.reverse
  | _, _, .nil => .nil
  | _, _, .cons z r => by
    rw [List.reverse_cons, List.reverse_cons]
    exact vals_app (vals_rev r) (.cons z .nil)
theorem vals_turn {rev : Bool} {a : List V} {b : List Value} (h : Vals a b) : Vals (turnIf rev a) (turnIf rev b) := by
  unfold turnIf
  cases rev with
  | true => exact vals_rev h
  | false => exact h
theorem turn_len {α : Type} {rev : Bool} {l : List α} : (turnIf rev l).length = l.length := by
  unfold turnIf
  cases rev <;> simp
def cCallK (n : Nat) (f : Fs) (rev : Bool) (as : As) : Ex := fun ρ => (as ρ).bind fun s ρ => if s.length = n then (match f (turnIf rev s) with
  | .ret d _ => .ok d ρ
  | _ => .stuck) else .stuck
section
variable {X : Cx} {W : WX} {k n i : Nat} {x : Str} {f : Fs} {g : Ex} {rev : Bool} {ks : List Str} {p pos kpos : Pos} {e : Expr} {kws : List Keyword} {as : As} {nm : Option Str}
theorem pk_imp {t t' : TA} (h : L2.PK X kws t) (k : ∀ σ H Q, t' σ H Q → t σ H Q) : L2.PK X kws t' := ⟨fun pos pins s σ H Q I w => h.run pos pins s σ H Q I (k σ H Q w)⟩
theorem ka_nil : L2.PK X [] (tAs X.K X.mg W aNil) := pk_imp pk_nil fun σ H Q ⟨F, R, A, ρ, rel, s⟩ => s A [] H (.refl A H) rel .nil
theorem ka_dat (h1 : PE X e (tE X.K X.mg W g)) (h2 : L2.PK X kws (tAs X.K X.mg W as)) : L2.PK X (⟨nm, e, kpos⟩ :: kws) (tAs X.K X.mg W (aD g as)) :=
  pk_imp (pk_cons h1 h2) fun σ H Q ⟨F, R, A, ρ, rel, s⟩ => by
    refine ⟨F, R, A, ρ, rel, sat_mono (sat_bind s) fun a ρ1 s1 A1 x H1 p1 rel1 r1 => ?_⟩
    refine ⟨F, R, A1, ρ1, rel1, sat_mono (sat_bind s1) fun b ρ2 s2 A2 ys H2 p2 rel2 r2 => ?_⟩
    exact s2 A2 _ H2 (p1.trans p2) rel2 (.cons (r1.stp p2) r2)
theorem d_callK (c : CalK X.prog X.w X.K X.mg X.base k x ks rev (spM X.K X.mg n f)) (hr : Room k X.A) (hgd : X.A.guards = some []) (hg : Gl X x) (hn : ks.length = n) (ha : L2.PK X kws (tAs X.K X.mg W as)) (hdb : (x == ("__debug__" : Str)) = false := by decide)
    (hall : (backToKw pos (keywordEach kws X.env)).all (·.1.isSome) = true := by rfl) (hks : (backToKw pos (keywordEach kws X.env)).filterMap (·.1) = ks := by rfl)
    (hpl : ((backTo pos (starEach [] X.env)).any (·.1) || (backToKw pos (keywordEach kws X.env)).any (·.1.isNone)) = false := by rfl) : PE X (.Call (.Name x p) [] kws pos) (tE X.K X.mg W (cCallK n f rev as)) := by
  obtain ⟨fa, fd, ps, F, hm, hk, hl, hb⟩ := c.ex
  refine ⟨fun pins s σ H Q I ⟨Fm, R, A, ρ, rel, st⟩ => ?_⟩
  refine wpAny_Call_Name_kw (ld_glob I hg hm ?_ hdb)
  refine PySem.W.callWith_KW0 (h₀ := X.base) I.ok.mod.kin hk hall ?_ hpl
  have ht : tAs X.K X.mg W as σ H fun vs H1 => vs.length = n ∧ spM X.K X.mg n f (turnIf rev vs) H1 Q E0 :=
    ⟨Fm, R, A, ρ, rel, sat_mono (sat_bind st) fun svs ρ1 s0 A1 vs H1 p1 rel1 r1 => by
      by_cases hl : svs.length = n
      · rw [if_pos hl] at s0
        have hv := (argsR_len r1).trans hl
        cases hf : f (turnIf rev svs) with
        | stuck => rw [hf] at s0; exact s0.elim
        | exc x io => rw [hf] at s0; exact s0.elim
        | ret d io =>
          rw [hf] at s0
          exact ⟨hv, turn_len.trans hv, _, turnIf rev svs, fun a z => ⟨rel1.dom a z, rel1.nt a z⟩, paired_turn r1, d, io, hf, fun v H2 x2 rv => s0 A1 v H2 (p1.trans x2.stp) (rel1.grow x2) rv⟩
      · rw [if_neg hl] at s0
        exact s0.elim⟩
  refine thn (ha.run pos pins s σ H _ I ht) fun ws s2 ⟨zs, H2, I2, rz, hz, q2⟩ => ⟨I2.kIn, ?_⟩
  rw [hks]
  have hw : ws.length = ks.length := by rw [← rz.length, hz, hn]
  show wpAny _ _ (call (.ref fa) [] (ks.zip ws)) _ _ _
  refine wpAny_call (codeAny_mono (F.run X.A X.stack s2 H2 ⟨[], ks.zip ws⟩ (turnIf rev ws) (turnIf rev zs) Q E0 hr hgd I2.env0 (hb s2 ws I2.kIn hw) (vals_turn rz) q2) fun r s' hq => ?_)
  cases r with
  | error e => exact hq.elim
  | ok fl =>
    cases fl with
    | ret u => exact I2.after hq
    | next => exact False.elim hq
    | brk => exact False.elim hq
    | cont => exact False.elim hq
end
section
variable {P : Program} {w : World} {K : PySem.W.Frag} {mg : Str → Option Value} {base : Heap} {k n m : Nat} {x : Str} {st : Stmt} {N ps ks : List Str} {ts : List Nat} {b : Ss} {rev : Bool}
abbrev BindsKw (st : Stmt) (x : Str) (ps ks : List Str) (rev : Bool) : Prop := ∀ (kV doc pm : Value) (an : Option Addr) (cdv ct : Value) (ws : List Value), ws.length = ks.length → bindArgs (PySem.W.fnOf x x (defArgs st) (defBody st) (defScope st) .none kV doc pm an cdv ct) ⟨[], ks.zip ws⟩ = pure (ps.zip (turnIf rev ws))
theorem cal_defK (D : Df K mg x st) (S : FnScope N ps (defScope st)) (hn : ps.length = n) (hN : N.length - n = m) (hks : ks.length = ps.length) (hb : BindsKw st x ps ks rev) (body : BodyD P w K mg base k x st N ts b) : CalK P w K mg base (k + 1) x ks rev (spM K mg n (bodyOf b m false)) :=
  byName D hks hb fun f fd F hm => ok_def F S hn hN (fun cdv A outer s H E hr hgd => body f cdv A outer s H E hr hgd)
theorem cal_defKE (D : Df K mg x st) (S : FnScope N ps (defScope st)) (hn : ps.length = n) (hN : N.length - n = m) (hks : ks.length = ps.length) (hb : BindsKw st x ps ks rev) (body : BodyE P w K mg base k x st N ts b) : CalK P w K mg base (k + 1) x ks rev (spM K mg n (bodyOf b m false)) :=
  byName D hks hb fun f fd F hm => (ok_defE F S hn hN body).toM
end
end Mo
end
section
set_option autoImplicit false
set_option linter.all false
set_option Elab.async false
set_option maxHeartbeats 1000000
/-! MX4: len(set(xs)), xs a list or a tuple of ints. -/
namespace Mo
open PySem PySem.Spec L2
theorem metI_spec (ns : List Int) : (metI ns).Nodup ∧ ∀ k, k ∈ metI ns ↔ k ∈ ns := by
  have go : ∀ (ns acc : List Int), acc.Nodup → (ns.foldl (fun σ k => if σ.any (· == k) then σ else σ ++ [k]) acc).Nodup ∧ ∀ k, k ∈ ns.foldl (fun σ k => if σ.any (· == k) then σ else σ ++ [k]) acc ↔ k ∈ acc ∨ k ∈ ns := by
    intro ns
    induction ns with
    | nil => exact fun acc h => ⟨h, fun k => by simp⟩
    | cons n ns ih =>
      intro acc h
      rw [List.foldl_cons]
      by_cases c : acc.any (· == n) = true
      · rw [if_pos c]
        have hn : n ∈ acc := by simpa using c
        obtain ⟨h1, h2⟩ := ih acc h
        refine ⟨h1, fun k => ?_⟩
        rw [h2, List.mem_cons]
        constructor
        · rintro (h | h)
          · exact .inl h
          · exact .inr (.inr h)
        · rintro (h | rfl | h)
          · exact .inl h
          · exact .inl hn
          · exact .inr h
      · rw [if_neg c]
        have hn : n ∉ acc := by simpa using c
        obtain ⟨h1, h2⟩ := ih (acc ++ [n]) (List.nodup_append.mpr ⟨h, by simp, fun a ha b hb e => by
          simp only [List.mem_singleton] at hb
          subst hb; subst e
          exact hn ha⟩)
        refine ⟨h1, fun k => ?_⟩
        rw [h2, List.mem_append, List.mem_singleton, List.mem_cons, or_assoc]
  obtain ⟨h1, h2⟩ := go ns [] .nil
  exact ⟨h1, fun k => by
    have := h2 k
    unfold metI
    rw [this]; simp⟩
section
variable {X : Cx} {W : WX} {e : Expr} {l : Ls} {pos p p2 pos2 : Pos} {b c : Bool}
theorem d_lenSetA (hc : X.calm = true) (hg : Gl X "len") (hm : X.mg "len" = none) (hg2 : Gl X "set") (hm2 : X.mg "set" = none) (h1 : PE X e (tL X.K X.mg W b c l)) (na : starEach [e] X.env = (false, eval e X.env) :: starEach [] X.env := by rfl) : PE X (.Call (.Name "len" p) [.Call (.Name "set" p2) [e] [] pos2] [] pos) (tE X.K X.mg W (cLenSetI l)) := by
  have core : PE X (.Call (.Name "len" p) [.Call (.Name "set" p2) [e] [] pos2] [] pos) (fun σ H Q => tL X.K X.mg W b c l σ H fun x H1 => ∃ (l : Addr) (ns : List Int), x = V.ref l ∧ (SqL X.K H1 l (ns.map V.int) ∨ SqT X.K H1 l (ns.map V.int)) ∧ ns.length ≤ 4000 ∧ Q (.int (metI ns).length) H1) := by
    refine ⟨fun pins s σ H Q I h => ?_⟩
    refine PyProof.Rows.Call_ (ld_blt I hg hm PySem.boot_len ?_)
    refine PyProof.Rows.callWith_builtin1 (PyProof.Rows.args_cons ?_ rfl) rfl rfl
    refine PyProof.Rows.Call_ (ld_blt I hg2 hm2 PyProof.Rows.boot_set ?_)
    refine PyProof.Rows.callWith_type1 (PyProof.Rows.args_cons (thn (h1.run pins s σ H _ I h) fun v s1 ⟨x, H1, I1, r1, q1⟩ => PyProof.Rows.args_nil ?_) na) na rfl
    obtain ⟨l, ns, rfl, hq, h1, q1⟩ := q1
    cases r1
    rcases hq with hq | hq
    · obtain ⟨its, r, pl, hz⟩ := I1.list hq
      have hl : its.toArray.size = ns.length := by rw [List.size_toArray, ← r.length, List.length_map]
      refine call_set_list (I1.ok.hd hc) pl.isList (ns := ns) (by simpa using r.ints) (by unfold scanBound; omega) fun h' tk hS hk => ?_
      rw [hl, metI_eq] at hS
      refine PyProof.Rows.args_nil ?_
      have hle : (metI ns).length ≤ ns.length := by rw [← metI_eq]; exact PyProof.Rows.firstMet_length_le _ _
      obtain ⟨o, es, ep, t, ho, hex, hd, _, _, _, hf, hn⟩ := hS
      have I2 : Inv X pins σ H1 { s1 with heap := h', toks := tk } := I1.kept fun b o e => hk b o (Heap.lt_size e) e
      exact call_len_set ho hex hd hf (by rw [hn]; omega) ⟨.int (metI ns).length, H1, I2.tok _, ⟨_, by rw [hn]⟩, q1⟩
    · obtain ⟨its, rv, pt, hz⟩ := I1.tuple hq
      have hi : PyProof.Rows.IntsAre its.toArray.toList ns := by simpa using rv.ints
      refine call_set_tupI ns (I1.ok.hd hc) (show s1.heap.IsTuple l its.toArray from pt) hi (by unfold scanBound; omega) fun h' tk c R1 hcn k => ?_
      refine PyProof.Rows.args_nil ?_
      obtain ⟨o, es, ep, t, ho, hex, hd, _, nd, hmem, _, hf, hn, _⟩ := R1
      have I2 : Inv X pins σ H1 { s1 with heap := h', toks := tk } := I1.kept k
      obtain ⟨m1, m2⟩ := metI_spec ns
      have hle : es.size = (metI ns).length := by
        have p : (es.toList.map keyOf).Perm (metI ns) := (List.perm_ext_iff_of_nodup nd m1).mpr fun j => by
          rw [m2, ← hmem j, decide_eq_true_eq]
        rw [← p.length_eq, List.length_map, Array.length_toList]
      have hle2 := nodup_le m1 fun j hj => (m2 j).mp hj
      exact call_len_set ho hex hd hf (by omega) ⟨.int (metI ns).length, H1, I2.tok _, ⟨_, by rw [hle]⟩, q1⟩
  refine PE.imp core fun σ H Q ⟨F, R, A, ρ, rel, s⟩ => ?_
  refine ⟨F, R, A, ρ, rel, sat_mono (sat_bind s) fun xs ρ1 s1 A1 v H1 p1 rel1 k => ?_⟩
  obtain ⟨a, vs, rfl, r, q⟩ := k
  split at s1
  · rename_i ns hns
    by_cases hz : ns.length ≤ 4000
    · rw [if_pos hz] at s1
      refine ⟨a, ns, rfl, ?_, hz, s1 A1 _ H1 p1 rel1 (.int _)⟩
      rw [← r.ints hns]
      rcases q with q | q
      · exact .inl q.1
      · exact .inr (SqT.of q.2.1)
    · rw [if_neg hz] at s1
      exact s1.elim
  · exact s1.elim
end
end Mo
end
section
set_option autoImplicit false
set_option linter.all false
set_option Elab.async false
set_option maxHeartbeats 1000000
/-! MX5: xs == [], xs != [] of an own list, which stays own. -/
namespace Mo
open PySem PySem.Spec L2
def cNilL (neg : Bool) (l : Ls) : Ex := fun ρ => (l ρ).bind fun xs ρ => if (PyData.list xs).canLay0 = true then .ok (.bool (xs.isEmpty != neg)) ρ else .stuck
theorem sqL_grow {K : PySem.W.Frag} {H H' : Hp} {a : Addr} {xs : List V} (x : Ex0 H H') (h : SqL K H a xs) : SqL K H' a xs := by
  rcases h with h | h
  · rcases h with h | ⟨ob, h⟩
    · exact .inl (.inl (x _ _ h))
    · exact .inl (.inr ⟨ob, x _ _ h⟩)
  · exact .inr h
theorem eqv_nil (xs : List PyData) : PyData.eqv (.list xs) (.list []) = xs.isEmpty := by cases xs <;> rfl
/-- an own list's name as a value, at any time -/
def cFzA (i : Nat) : Ex := fun ρ => match ρ[i]? with
  | some (some (.dat d)) => .ok d ρ
  | _ => cFz i ρ
theorem d_fzA {X : Cx} {W : WX} {e : Expr} {i : Nat} (h : PE X e (tVar i)) : PE X e (tE X.K X.mg W (cFzA i)) := by
  refine ⟨fun pins s σ H Q I hs => ?_⟩
  obtain ⟨F, R, A, ρ, rel, st⟩ := hs
  unfold cFzA at st
  split at st
  · rename_i d e1
    refine (d_var (W := W) h).run pins s σ H Q I ⟨F, R, A, ρ, rel, ?_⟩
    unfold cV
    rw [e1]
    exact st
  · exact (d_fz (W := W) h).run pins s σ H Q I ⟨F, R, A, ρ, rel, st⟩
section
variable {X : Cx} {W : WX} {e : Expr} {l : Ls} {pos p2 : Pos} {b c : Bool}
theorem tNil_of {neg : Bool} (σ : St) (H : Hp) (Q : VK) (s : tE X.K X.mg W (cNilL neg l) σ H Q) : tOp (rEqM X.K neg) (tL X.K X.mg W b false l) (tLst tNil) σ H Q := by
  obtain ⟨F, R, A, ρ, rel, s⟩ := s
  refine ⟨F, R, A, ρ, rel, sat_mono (sat_bind s) fun xs ρ1 s1 A1 x H1 p1 rel1 k => ?_⟩
  obtain ⟨a, vs, rfl, r, q⟩ := k.lst
  by_cases hc : (PyData.list xs).canLay0 = true
  · rw [if_pos hc] at s1
    refine ⟨Nat.zero_le _, fun p hp => ?_⟩
    have x1 : Ex0 H1 (upd H1 p (.lst [])) := Ex0.new hp
    refine ⟨.list xs, .list [], .lst (sqL_grow x1 q) (RpAll.imp (fun _ h => h) (fun a o h _ => x1 a o h) r).dp, .lst (SqL.of upd_same) .nil, ?_, ?_⟩
    · unfold eqOk
      rw [hc]
      have e1 : PyData.depth (.list []) = 1 := rfl
      have e2 : PyData.canLay0 (.list []) = true := rfl
      rw [e1, e2]
      simp only [Bool.and_self, Bool.true_and, decide_eq_true_eq]
      omega
    · rw [eqv_nil]
      exact s1 A1 _ _ (p1.trans x1.stp) (rel1.grow x1) (.bl _)
  · rw [if_neg hc] at s1
    exact s1.elim
theorem d_eqNil (hu : X.A.units + 64 < cLine) (h1 : PE X e (tL X.K X.mg W b false l)) (hm : behindInMarks .Eq (.List [] p2) = false := by rfl) : PE X (.Compare e [.Eq] [.List [] p2] pos) (tE X.K X.mg W (cNilL false l)) :=
  PE.imp (pe_cmpR (op_eqM hu) h1 (pe_lst pa_nil) hm) tNil_of
theorem d_neNil (hu : X.A.units + 64 < cLine) (h1 : PE X e (tL X.K X.mg W b false l)) (hm : behindInMarks .NotEq (.List [] p2) = false := by rfl) : PE X (.Compare e [.NotEq] [.List [] p2] pos) (tE X.K X.mg W (cNilL true l)) :=
  PE.imp (pe_cmpR (op_neM hu) h1 (pe_lst pa_nil) hm) tNil_of
theorem dt_eqNil (hu : X.A.units + 64 < cLine) (h1 : PE X e (tL X.K X.mg W b false l)) (hm : behindInMarks .Eq (.List [] p2) = false := by rfl) : PT X (.Compare e [.Eq] [.List [] p2] pos) (tT X.K X.mg W (tD (cNilL false l))) :=
  PT.imp (pt_cmpR (op_eqM hu) h1 (pe_lst pa_nil) hm) (tB_of tNil_of)
theorem dt_neNil (hu : X.A.units + 64 < cLine) (h1 : PE X e (tL X.K X.mg W b false l)) (hm : behindInMarks .NotEq (.List [] p2) = false := by rfl) : PT X (.Compare e [.NotEq] [.List [] p2] pos) (tT X.K X.mg W (tD (cNilL true l))) :=
  PT.imp (pt_cmpR (op_neM hu) h1 (pe_lst pa_nil) hm) (tB_of tNil_of)
end
end Mo
end
section
set_option autoImplicit false
set_option linter.all false
set_option Elab.async false
set_option maxRecDepth 100000
set_option maxHeartbeats 2000000
/-! MEnd: a law's end, for a def that is known where no repr is under way. -/
namespace Mo
open PyProof.Rows hiding St
open PySem PySem.Spec L2
section
variable {P : Program} {w : World} {K : PySem.W.Frag} {mg mb : Str → Option Value} {k : Nat} {fa a : Addr} {fd : FuncData} {x : Str} {sp : Sp} {t : Shared} {us : List Value} {ns : List Int}
abbrev GoodEnd (t : Shared) : Result → Shared → Prop := fun r u => r = .ok (.ret (.bool true)) ∧ OldK t.heap u.heap ∧ u.os = t.os ∧ AllBare u.gens
/-- over an abstract heap that may tell the script alone -/
theorem end_core {T : Hp} (KX : K.In t.heap) (hns : t.heap.Ns mainGlobals mg) (hb : t.heap.Ns builtinsNs mb) (hbb : ∀ x : Str, x ≠ "__name__" → mb x = bootBuiltins x) (hlim : t.heap.NoLimit) (hg : t.gens = #[])
    (ha : t.heap.get? a = some { cls := .type "list", data := .seq us.toArray }) (hr : Room k callerA)
    (F : ∀ base : Heap, K.In base → base.Ns mainGlobals mg → FnM P w K mg base k fa fd [x] sp) (hbind : ∀ (s : Shared) (u : Value), BindsTo s fd ⟨[u], []⟩ [(x, u)])
    (hO : Only T) (hsp : sp [.ref a] T (fun v _ => v = .bl true) fun _ _ _ => False) (hok : HOk P w T t.heap) (hA : ∀ b, T b ≠ none → b = a) (hK : T a ≠ none → K.lookup a = none) :
    codeAny (model P w) callerA (.call (.ref fa) ⟨[.ref a], []⟩) (GoodEnd t) t := by
  have hat : ∀ {b : Addr}, T b ≠ none → t.heap.get? b = some { cls := .type "list", data := .seq us.toArray } := fun {b} z => by rw [hA b z]; exact ha
  have free : ∀ {b : Addr} {o : Obj} {es : Array DictEntry} {ep : Nat}, t.heap.get? b = some o → o.data = .dict es ep → T b = none := by
    intro b o es ep e d
    by_cases z : T b = none
    · exact z
    · have e2 := (hat z).symm.trans e
      cases e2
      exact nomatch d
  have ns' : ∀ {b : Addr} {m : Str → Option Value}, t.heap.Ns b m → (hidT t.heap T).Ns b m := by
    intro b m h
    obtain ⟨o, es, ep, e, d, r⟩ := h
    exact ⟨o, es, ep, hidT_get e (free e d), d, r⟩
  have kin : K.In (hidT t.heap T) := by
    intro b o e
    refine hidT_get (KX b o e) ?_
    by_cases z : T b = none
    · exact z
    · have eb := hA b z
      subst eb
      rw [hK z] at e
      cases e
  obtain ⟨mc, l1, l2⟩ := hlim
  have env : Env0 P w K mg (hidT t.heap T) callerA [] t T := ⟨rfl, ⟨kin, ns' hns, ⟨mb, ns' hb, hbb⟩, ⟨mc, ns' l1, l2⟩⟩, fun b o e => of_hidT e, Nat.le_of_eq (hidT_size _ _), trivial, fun b hb => (List.not_mem_nil hb).elim, hok, .of_eq hg⟩
  refine codeAny_mono ((F _ kin (ns' hns)).run callerA [] t T ⟨[.ref a], []⟩ [.ref a] [.ref a] _ _ hr rfl env (hbind t (.ref a)) (.cons rfl .nil) hsp) ?_
  intro r u h
  cases r with
  | error e => exact False.elim h
  | ok fl =>
    cases fl with
    | ret y =>
      obtain ⟨v, T', os, bare, un, hok', ry, q⟩ := h
      cases (show v = .bl true from q)
      cases (show y = Value.bool true from ry)
      refine ⟨rfl, OldK.of_keep fun b o e => ?_, os, bare⟩
      rcases hO b with z | ⟨ob, xs, z⟩
      · exact un.keep b o e z (fun hm => (List.not_mem_nil hm).elim) List.not_mem_nil
      · have g1 := (hok b _ z).1
        have g2 := (hok' b _ (un.frzs b ob _ z)).1
        exact g2.trans (g1.symm.trans e)
    | next => exact False.elim h
    | brk => exact False.elim h
    | cont => exact False.elim h
theorem end_call (KX : K.In t.heap) (hns : t.heap.Ns mainGlobals mg) (hb : t.heap.Ns builtinsNs mb) (hbb : ∀ x : Str, x ≠ "__name__" → mb x = bootBuiltins x) (hlim : t.heap.NoLimit) (hg : t.gens = #[])
    (ha : t.heap.get? a = some { cls := .type "list", data := .seq us.toArray }) (hi : IntsAre us ns) (hl : ns.length ≤ sizeLine) (hr : Room k callerA)
    (F : ∀ base : Heap, K.In base → base.Ns mainGlobals mg → FnM P w K mg base k fa fd [x] sp) (hbind : ∀ (s : Shared) (u : Value), BindsTo s fd ⟨[u], []⟩ [(x, u)])
    (hsp : ∀ T : Hp, Only T → SqL K T a (ns.map V.int) → sp [.ref a] T (fun v _ => v = .bl true) fun _ _ _ => False) :
    codeAny (model P w) callerA (.call (.ref fa) ⟨[.ref a], []⟩) (GoodEnd t) t := by
  have rv := vals_ints hi
  cases hk : K.lookup a with
  | some o =>
    obtain rfl := Option.some.inj ((KX a o hk).symm.trans ha)
    have O : Only (fun _ => none) := fun _ => .inl rfl
    exact end_core KX hns hb hbb hlim hg ha hr F hbind O (hsp _ O (.inr ⟨_, us.toArray, _, hk, rfl, rfl, rfl, by rw [List.size_toArray, hi.length]; exact hl, by simpa using rv⟩)) (fun b u z => nomatch z) (fun b z => absurd rfl z) fun z => absurd rfl z
  | none =>
    let T : Hp := fun b => if b = a then some (.frz { cls := .type "list", data := .seq us.toArray } (.lst (ns.map V.int))) else none
    have at_ : T a = some (.frz { cls := .type "list", data := .seq us.toArray } (.lst (ns.map V.int))) := if_pos rfl
    have off : ∀ {b : Addr}, b ≠ a → T b = none := fun h => if_neg h
    have O : Only T := fun b => by
      by_cases e : b = a
      · exact .inr ⟨_, _, by rw [e]; exact at_⟩
      · exact .inl (off e)
    refine end_core KX hns hb hbb hlim hg ha hr F hbind O (hsp T O (.inl (.inr ⟨_, at_⟩))) (fun b u z => ?_) (fun b z => ?_) fun _ => hk
    · by_cases e : b = a
      · subst e
        cases at_.symm.trans z
        exact ⟨ha, by rw [List.length_map]; exact hl, us, _, rv, ha⟩
      · rw [off e] at z
        cases z
    · by_cases e : b = a
      · exact e
      · exact absurd (off e) z
end
theorem walk_ofM {l : PySem.W.OpenLaw} {n k : Nat} {q : Program} {loose : List Str} {XP : (Str → Option Value) → Heap → Prop} {YP : World → Heap → Prop} {d : DefRec} {x : Str}
    (hn : l.most = some n) (hn2 : n ≤ sizeLine) (hdf : d.params.defaults = []) (hr : Room k callerA)
    (F : ∀ (w : World) (mg : Str → Option Value) (fa : Addr) (h : Heap), YP w h → h.Ns mainGlobals mg → mg d.name = some (.ref fa) →
      ∃ (K : PySem.W.Frag) (fd : FuncData) (sp : Sp), K.In h ∧ (∀ (s : Shared) (u : Value), BindsTo s fd ⟨[u], []⟩ [(x, u)]) ∧
        (∀ (T : Hp) (a : Addr) (ns : List Int), ns.length ≤ n → Only T → SqL K T a (ns.map V.int) → sp [.ref a] T (fun v _ => v = .bl true) fun _ _ _ => False) ∧
        ∀ base : Heap, K.In base → base.Ns mainGlobals mg → FnM l.prog w K mg base k fa fd [x] sp) :
    PySem.W.WalkO q loose XP YP l.row.toRowW d [] (fun f vs => PySem.call f vs) :=
  Att.attach_call hn hdf fun w s₀ s₁ mg mb fa o pm cd doc a vs ns G Y ho hd hcd hmg hobj hints hlen hg =>
    let ⟨_, _, _, KX, hb, hsp, hF⟩ := F w mg fa _ Y G.T.g hmg
    end_call KX G.T.g G.T.b G.T.builtins G.T.nolimit hg hobj hints (Nat.le_trans hlen hn2) hr hF hb fun T hO hS => hsp T a ns hlen hO hS
end Mo
end
section
set_option autoImplicit false
set_option linter.all false
set_option Elab.async false
set_option maxRecDepth 100000
set_option maxHeartbeats 2000000
/-! MHook: a hook that tells facts of names, defs, and one Bool more. -/
namespace Mo
open PyProof.Rows hiding St
open PySem PySem.Spec L2
abbrev AlE : Type := He.AlD × Bool
def obsE (n : Nat) (fa : List He.Fa) (fn : List He.DefD) (ex : PySem.W.Frag → Bool) (g : Addr → Option Obj) : AlE := (He.obsD fa fn (He.frG g (He.asD g n)), ex (He.frG g (He.asD g n)))
def hookE (n : Nat) (fa : List He.Fa) (fn : List He.DefD) (ex : PySem.W.Frag → Bool) : PySem.W.Hook where
  α := AlE
  obs := fun s => obsE n fa fn ex s.heap.get?
  val := fun _ => (He.valD fn, true)
  says := fun _ h => ∃ K : PySem.W.Frag, K.In h ∧ He.SaysD fa fn K ∧ ex K = true
  of := fun _ _ e => ⟨_, He.frG_in, congrArg (fun z : AlE => z.1) e, congrArg (fun z : AlE => z.2) e⟩
  keeps := fun _ _ _ ⟨K, hK, c⟩ k => ⟨K, PySem.W.Frag.In.keeps hK k, c⟩
theorem obsE_eq {n : Nat} {fa : List He.Fa} {fn : List He.DefD} {ex : PySem.W.Frag → Bool} {g : Addr → Option Obj} {s : Shared} (h : ∀ a, g a = s.heap.get? a) : obsE n fa fn ex g = (hookE n fa fn ex).obs s := by
  have e : g = s.heap.get? := funext h
  rw [e] <;> rfl
/-- a class that is raised by its bare name -/
def exclB (newId : String) (bmB : List Value) (x : Str) (K : PySem.W.Frag) : Bool :=
  He.eqO (PySem.W.nsIn K mainGlobals x) (some (some (.ref (He.ga K x)))) && PySem.W.keepIn K (.ref (He.ga K x)) && PySem.W.excIn K (He.ga K x) bmB newId && decide (PySem.W.subIn K (.ref (He.ga K x)) (.type "BaseException") = some true) && decide (PySem.W.typeIn K (.ref (He.ga K x)) = some (.type "type"))
theorem exclB_ok {K : PySem.W.Frag} {h : Heap} {mg : Str → Option Value} {B newId initId : String} {bmB : List Value} {x : Str} (X : K.In h) (G : h.Ns mainGlobals mg) (c : exclB newId bmB x K = true) : ExCl K mg B newId initId bmB x := by
  unfold exclB at c
  simp only [Bool.and_eq_true, decide_eq_true_eq] at c
  obtain ⟨⟨⟨⟨c1, c2⟩, c3⟩, c4⟩, c5⟩ := c
  exact ⟨_, PySem.W.mg_of X G (He.eqO_ok c1), c2, c3, c4, c5⟩
def excCB (K : PySem.W.Frag) (D : Addr) : Bool :=
  decide (PySem.W.findIn K (.ref D) "__getattribute__" = some (some (.builtin "BaseException.__getattribute__"))) && decide (PySem.W.findIn K (.ref D) "__getattr__" = some none) && decide (PySem.W.subIn K (.ref D) (.type "BaseException") = some true) && PySem.W.hasDictIn K D &&
    decide (PySem.W.findIn K (.ref D) "__class__" = some (some (.builtin "object.__class__"))) && decide (PySem.W.specialIn K (.builtin "object.__class__") "__get__" = some (some (.builtin "getset_descriptor.__get__"))) && decide (PySem.W.takesIn K (.builtin "object.__class__") = some true) && decide (PySem.W.mroIn K D (.type "object") = some true)
theorem excCB_ok {K : PySem.W.Frag} {D : Addr} (c : excCB K D = true) : ExcC K D := by
  unfold excCB at c
  simp only [Bool.and_eq_true, decide_eq_true_eq] at c
  obtain ⟨⟨⟨⟨⟨⟨⟨c1, c2⟩, c3⟩, c4⟩, c5⟩, c6⟩, c7⟩, c8⟩ := c
  exact ⟨c1, c2, c3, c4, c5, c6, c7, c8⟩
/-- caught by its own name xn, it is a y -/
def exisB (xn y : Str) (K : PySem.W.Frag) : Bool :=
  He.eqO (PySem.W.nsIn K mainGlobals xn) (some (some (.ref (He.ga K xn)))) && He.eqO (PySem.W.nsIn K mainGlobals y) (some (some (.ref (He.ga K y)))) && decide (PySem.W.exmOne K (.ref (He.ga K xn)) (.ref (He.ga K xn)) = some true) && excCB K (He.ga K xn) && decide (PySem.W.kitOne K (.ref (He.ga K xn)) (.ref (He.ga K y)) = some true)
theorem exisB_ok {K : PySem.W.Frag} {h : Heap} {mg : Str → Option Value} {xn y : Str} (X : K.In h) (G : h.Ns mainGlobals mg) (c : exisB xn y K = true) : ExIs K mg xn y := by
  unfold exisB at c
  simp only [Bool.and_eq_true, decide_eq_true_eq] at c
  obtain ⟨⟨⟨⟨c1, c2⟩, c3⟩, c4⟩, c5⟩ := c
  exact ⟨_, _, PySem.W.mg_of X G (He.eqO_ok c1), PySem.W.mg_of X G (He.eqO_ok c2), c3, excCB_ok c4, c5⟩
end Mo
end
section
set_option autoImplicit false
set_option linter.all false
set_option Elab.async false
/-! MTop: the law's promise from its plain function. -/
namespace Mo
open PyProof.Rows hiding St
open PySem PySem.Spec L2
theorem sp_law {K : PySem.W.Frag} {mg : Str → Option Value} {f : Fs} {T : Hp} {a : Addr} {ns : List Int} (h : ∃ io, f [.scr ns] = .ret (.bool true) io) (hS : SqL K T a (ns.map V.int)) : spM K mg 1 f [.ref a] T (fun v _ => v = .bl true) fun _ _ _ => False := by
  obtain ⟨io, h⟩ := h
  refine ⟨rfl, fun _ => False, [.scr ns], (fun a z => z.elim), .cons ?_ .nil, .bool true, io, h, fun v H' _ r => ?_⟩
  · refine ⟨a, rfl, ?_⟩
    rcases hS with h | h
    · exact .inr ⟨h, fun z => z⟩
    · exact .inl (.inr h)
  · cases r
    rfl
end Mo
end
section
set_option autoImplicit false
set_option linter.all false
set_option Elab.async false
set_option maxRecDepth 100000
set_option maxHeartbeats 0
/-! Printed by gen.py: each def of the row as a plain function, and that it is that. -/
namespace Mo.K70
open PySem PySem.Spec L2
def top (i : Nat) : Stmt := PySem.Challenge.pw_roadsbyturns_k70_whole_orders_made_or_wi.main.body.getD i (.Pass ⟨0, 0, 0, 0⟩)
structure G (mg : Str → Option Value) : Prop where
  b_abs : mg "abs" = none
  b_all : mg "all" = none
  b_any : mg "any" = none
  b_bool : mg "bool" = none
  b_divmod : mg "divmod" = none
  b_enumerate : mg "enumerate" = none
  b_int : mg "int" = none
  b_isinstance : mg "isinstance" = none
  b_len : mg "len" = none
  b_list : mg "list" = none
  b_max : mg "max" = none
  b_min : mg "min" = none
  b_range : mg "range" = none
  b_repr : mg "repr" = none
  b_set : mg "set" = none
  b_sorted : mg "sorted" = none
  b_str : mg "str" = none
  b_tuple : mg "tuple" = none
  b_zip : mg "zip" = none
  e_BEHIND : ∃ t, mg "BEHIND" = some (.str "behind" t)
  e_BESIDE : ∃ t, mg "BESIDE" = some (.str "beside" t)
  e_EN : ∃ t, mg "EN" = some (.str "n" t)
  e_MADE : ∃ t, mg "MADE" = some (.str "made" t)
  e_MOST_WORKS : ∃ t, mg "MOST_WORKS" = some (.int 16 t)
  e_ORDER : ∃ t, mg "ORDER" = some (.str "order" t)
  e_WORK : ∃ t, mg "WORK" = some (.str "work" t)
structure GX (K : PySem.W.Frag) (mg : Str → Option Value) : Prop where
  x_NotMade : ExCl K mg "RuntimeError" "RuntimeError.__new__" "RuntimeError.__init__" [.type "RuntimeError", .type "Exception", .type "BaseException", .type "object"] "NotMade"
  i_NotMade : ExIs K mg "NotMade" "StateError"
section
variable {P : Program} {w : World} {K : PySem.W.Frag} {mg : Str → Option Value} {base : Heap}
def b_is_ahead_of : Ss := sRet (cIn false (cTup (dCons (cV 1) (dCons (cV 2) (dNil)))) (lD (cBin opIx (cV 0) (cK (.int 2)))))
def s_is_ahead_of : Fs := bodyOf b_is_ahead_of 0 false
theorem sc_is_ahead_of : FnScope ["order", "one", "other"] ["order", "one", "other"] (defScope (top 21)) := ⟨rfl, rfl, rfl, by decide +kernel, rfl, by decide +kernel, by decide +kernel⟩
theorem c_is_ahead_of (g : G mg) (D : Df K mg "is_ahead_of" (top 21)) : CalM P w K mg base 2 "is_ahead_of" (spM K mg 3 s_is_ahead_of) := by
  have S := sc_is_ahead_of
  refine cal_def (k := 1) (n := 3) (m := 0) (ts := []) (N := ["order", "one", "other"]) (ps := ["order", "one", "other"]) (b := b_is_ahead_of) D S rfl rfl (fun _ _ _ _ _ _ us hl => match us, hl with | [_, _, _], _ => rfl) fun f cdv A outer s H E hr hgd => ?_
  refine s_one ?_
  exact s_ret (d_in (b := false) (c := true) hr.units (d_tup (dd_cons (d_var (pv 1)) (dd_cons (d_var (pv 2)) (dd_nil)))) (l_dat (d_ix (d_var (pv 0)) (d_int) (fun _ _ => rfl))) rfl)
def b_are_free_of : Ss := sRet (cAnd (cNot (cCall 3 s_is_ahead_of (aD (cV 0) (aD (cV 1) (aD (cV 2) (aNil)))))) (cNot (cCall 3 s_is_ahead_of (aD (cV 0) (aD (cV 2) (aD (cV 1) (aNil)))))))
def s_are_free_of : Fs := bodyOf b_are_free_of 0 false
theorem sc_are_free_of : FnScope ["order", "one", "other"] ["order", "one", "other"] (defScope (top 22)) := ⟨rfl, rfl, rfl, by decide +kernel, rfl, by decide +kernel, by decide +kernel⟩
theorem c_are_free_of (g : G mg) (D : Df K mg "are_free_of" (top 22)) (c_is_ahead_of : CalM P w K mg base 2 "is_ahead_of" (spM K mg 3 s_is_ahead_of)) : CalM P w K mg base 3 "are_free_of" (spM K mg 3 s_are_free_of) := by
  have S := sc_are_free_of
  refine cal_def (k := 2) (n := 3) (m := 0) (ts := []) (N := ["order", "one", "other"]) (ps := ["order", "one", "other"]) (b := b_are_free_of) D S rfl rfl (fun _ _ _ _ _ _ us hl => match us, hl with | [_, _, _], _ => rfl) fun f cdv A outer s H E hr hgd => ?_
  refine s_one ?_
  exact s_ret (d_and (d_not (d_call (c_is_ahead_of.mono (by decide)) hr hgd rfl (da_dat (d_var (pv 0)) (da_dat (d_var (pv 1)) (da_dat (d_var (pv 2)) (da_nil)))))) (d_one (d_not (d_call (c_is_ahead_of.mono (by decide)) hr hgd rfl (da_dat (d_var (pv 0)) (da_dat (d_var (pv 2)) (da_dat (d_var (pv 1)) (da_nil))))))))
def b_are_paired : Ss := sRet (cNot (cCall 3 s_are_free_of (aD (cV 0) (aD (cV 1) (aD (cV 2) (aNil))))))
def s_are_paired : Fs := bodyOf b_are_paired 0 false
theorem sc_are_paired : FnScope ["order", "one", "other"] ["order", "one", "other"] (defScope (top 42)) := ⟨rfl, rfl, rfl, by decide +kernel, rfl, by decide +kernel, by decide +kernel⟩
theorem c_are_paired (g : G mg) (D : Df K mg "are_paired" (top 42)) (c_are_free_of : CalM P w K mg base 3 "are_free_of" (spM K mg 3 s_are_free_of)) : CalM P w K mg base 4 "are_paired" (spM K mg 3 s_are_paired) := by
  have S := sc_are_paired
  refine cal_def (k := 3) (n := 3) (m := 0) (ts := []) (N := ["order", "one", "other"]) (ps := ["order", "one", "other"]) (b := b_are_paired) D S rfl rfl (fun _ _ _ _ _ _ us hl => match us, hl with | [_, _, _], _ => rfl) fun f cdv A outer s H E hr hgd => ?_
  refine s_one ?_
  exact s_ret (d_not (d_call (c_are_free_of.mono (by decide)) hr hgd rfl (da_dat (d_var (pv 0)) (da_dat (d_var (pv 1)) (da_dat (d_var (pv 2)) (da_nil))))))
def b_is_integer : Ss := sRet (cAnd (cUn (opIsi [.int]) (cV 0)) (cNot (cUn (opIsi [.bool]) (cV 0))))
def s_is_integer : Fs := bodyOf b_is_integer 0 false
theorem sc_is_integer : FnScope ["value"] ["value"] (defScope (top 7)) := ⟨rfl, rfl, rfl, by decide +kernel, rfl, by decide +kernel, by decide +kernel⟩
theorem c_is_integer (g : G mg) (D : Df K mg "is_integer" (top 7)) : CalM P w K mg base 2 "is_integer" (spM K mg 1 s_is_integer) := by
  have S := sc_is_integer
  refine cal_def (k := 1) (n := 1) (m := 0) (ts := []) (N := ["value"]) (ps := ["value"]) (b := b_is_integer) D S rfl rfl (fun _ _ _ _ _ _ us hl => match us, hl with | [_], _ => rfl) fun f cdv A outer s H E hr hgd => ?_
  refine s_one ?_
  exact s_ret (d_and (d_isi .int rfl g.b_isinstance rfl g.b_int (by decide +kernel) (d_var (pv 0))) (d_one (d_not (d_isi .bool rfl g.b_isinstance rfl g.b_bool (by decide +kernel) (d_var (pv 0))))))
def b_is_count : Ss := sRet (cAnd (cCall 1 s_is_integer (aD (cV 0) (aNil))) (cBin opGe (cV 0) (cK (.int 0))))
def s_is_count : Fs := bodyOf b_is_count 0 false
theorem sc_is_count : FnScope ["value"] ["value"] (defScope (top 8)) := ⟨rfl, rfl, rfl, by decide +kernel, rfl, by decide +kernel, by decide +kernel⟩
theorem c_is_count (g : G mg) (D : Df K mg "is_count" (top 8)) (c_is_integer : CalM P w K mg base 2 "is_integer" (spM K mg 1 s_is_integer)) : CalM P w K mg base 3 "is_count" (spM K mg 1 s_is_count) := by
  have S := sc_is_count
  refine cal_def (k := 2) (n := 1) (m := 0) (ts := []) (N := ["value"]) (ps := ["value"]) (b := b_is_count) D S rfl rfl (fun _ _ _ _ _ _ us hl => match us, hl with | [_], _ => rfl) fun f cdv A outer s H E hr hgd => ?_
  refine s_one ?_
  exact s_ret (d_and (d_call (c_is_integer.mono (by decide)) hr hgd rfl (da_dat (d_var (pv 0)) (da_nil))) (d_one (d_cmp op_ge ok_ge (d_var (pv 0)) (d_int) (nomark _))))
def b_is_below : Ss := sRet (cAnd (cCall 1 s_is_count (aD (cV 0) (aNil))) (cBin opLt (cV 0) (cV 1)))
def s_is_below : Fs := bodyOf b_is_below 0 false
theorem sc_is_below : FnScope ["value", "many"] ["value", "many"] (defScope (top 9)) := ⟨rfl, rfl, rfl, by decide +kernel, rfl, by decide +kernel, by decide +kernel⟩
theorem c_is_below (g : G mg) (D : Df K mg "is_below" (top 9)) (c_is_count : CalM P w K mg base 3 "is_count" (spM K mg 1 s_is_count)) : CalM P w K mg base 4 "is_below" (spM K mg 2 s_is_below) := by
  have S := sc_is_below
  refine cal_def (k := 3) (n := 2) (m := 0) (ts := []) (N := ["value", "many"]) (ps := ["value", "many"]) (b := b_is_below) D S rfl rfl (fun _ _ _ _ _ _ us hl => match us, hl with | [_, _], _ => rfl) fun f cdv A outer s H E hr hgd => ?_
  refine s_one ?_
  exact s_ret (d_and (d_call (c_is_count.mono (by decide)) hr hgd rfl (da_dat (d_var (pv 0)) (da_nil))) (d_one (d_cmp (op_ltA hr.units) ok_lt (d_var (pv 0)) (d_var (pv 1)) (nomark _))))
def b_is_row : Ss := sRet (cAnd (cUn (opIsi [.tuple]) (cV 0)) (cBin opEq (cLen (lD (cV 0))) (cV 1)))
def s_is_row : Fs := bodyOf b_is_row 0 false
theorem sc_is_row : FnScope ["value", "many"] ["value", "many"] (defScope (top 10)) := ⟨rfl, rfl, rfl, by decide +kernel, rfl, by decide +kernel, by decide +kernel⟩
theorem c_is_row (g : G mg) (D : Df K mg "is_row" (top 10)) : CalM P w K mg base 2 "is_row" (spM K mg 2 s_is_row) := by
  have S := sc_is_row
  refine cal_def (k := 1) (n := 2) (m := 0) (ts := []) (N := ["value", "many"]) (ps := ["value", "many"]) (b := b_is_row) D S rfl rfl (fun _ _ _ _ _ _ us hl => match us, hl with | [_, _], _ => rfl) fun f cdv A outer s H E hr hgd => ?_
  refine s_one ?_
  exact s_ret (d_and (d_isi .tuple rfl g.b_isinstance rfl g.b_tuple (by decide +kernel) (d_var (pv 0))) (d_one (d_cmp (op_eqA hr.units) ok_eq (d_len (b := false) (c := true) rfl g.b_len (l_dat (d_var (pv 0)))) (d_var (pv 1)) (nomark _))))
def b_is_rising : Ss := sRet (cAll (nLc (iZipD (cV 0) (cSl (cV 0) (oSome (cK (.int 1))) (oNone))) (gTup [gN 1, gN 2]) (tYes) (cBin opLt (cV 1) (cV 2)) (([("near", 1), ("far", 2)] : List (Str × Nat)).map (·.2))))
def s_is_rising : Fs := bodyOf b_is_rising 2 false
theorem sc_is_rising : FnScope ["items", "near", "far"] ["items"] (defScope (top 11)) := ⟨rfl, rfl, rfl, by decide +kernel, rfl, by decide +kernel, by decide +kernel⟩
theorem c_is_rising (g : G mg) (D : Df K mg "is_rising" (top 11)) : CalM P w K mg base 2 "is_rising" (spM K mg 1 s_is_rising) := by
  have S := sc_is_rising
  refine cal_def (k := 1) (n := 1) (m := 2) (ts := []) (N := ["items", "near", "far"]) (ps := ["items"]) (b := b_is_rising) D S rfl rfl (fun _ _ _ _ _ _ us hl => match us, hl with | [_], _ => rfl) fun f cdv A outer s H E hr hgd => ?_
  refine s_one ?_
  exact s_ret (d_all (b := false) rfl rfl g.b_all (l_new (n_lc rfl S.nd (own := [("near", 1), ("far", 2)]) (ts := [1] ++ ([2] ++ ([]))) (i_zipD rfl g.b_zip (d_var (pv 0)) (d_sl (d_var (pv 0)) (o_some (d_int)) o_none)) (blk_of (by kernel_rfl)) (by decide) (fun _ _ _ _ _ => g_tup rfl (gs_cons (g_name (pg_name S.nd rfl (by first | exact Or.inl rfl | exact Or.inr rfl))) (gs_cons (g_name (pg_name S.nd rfl (by first | exact Or.inl rfl | exact Or.inr rfl))) (gs_nil)))) (fun _ _ _ _ _ => wf_nil rfl rfl) (fun _ _ _ _ _ => d_cmp (op_ltA hr.units) ok_lt (d_var (pv 1)) (d_var (pv 2)) (nomark _)))))
def b_is_pair_of : Ss := sRet (cAnd (cCall 2 s_is_row (aD (cV 1) (aD (cK (.int 2)) (aNil)))) (cAnd (cAll (nLc (lD (cV 1)) (gN 2) (tYes) (cCall 2 s_is_below (aD (cV 2) (aD (cV 0) (aNil)))) (([("work", 2)] : List (Str × Nat)).map (·.2)))) (cBin opNe (cBin opIx (cV 1) (cK (.int 0))) (cBin opIx (cV 1) (cK (.int 1))))))
def s_is_pair_of : Fs := bodyOf b_is_pair_of 1 false
theorem sc_is_pair_of : FnScope ["many", "value", "work"] ["many", "value"] (defScope (top 15)) := ⟨rfl, rfl, rfl, by decide +kernel, rfl, by decide +kernel, by decide +kernel⟩
theorem c_is_pair_of (g : G mg) (D : Df K mg "is_pair_of" (top 15)) (c_is_row : CalM P w K mg base 2 "is_row" (spM K mg 2 s_is_row)) (c_is_below : CalM P w K mg base 4 "is_below" (spM K mg 2 s_is_below)) : CalM P w K mg base 5 "is_pair_of" (spM K mg 2 s_is_pair_of) := by
  have S := sc_is_pair_of
  refine cal_def (k := 4) (n := 2) (m := 1) (ts := []) (N := ["many", "value", "work"]) (ps := ["many", "value"]) (b := b_is_pair_of) D S rfl rfl (fun _ _ _ _ _ _ us hl => match us, hl with | [_, _], _ => rfl) fun f cdv A outer s H E hr hgd => ?_
  refine s_one ?_
  exact s_ret (d_and (d_call (c_is_row.mono (by decide)) hr hgd rfl (da_dat (d_var (pv 1)) (da_dat (d_int) (da_nil)))) (d_and (d_all (b := false) rfl rfl g.b_all (l_new (n_lc rfl S.nd (own := [("work", 2)]) (ts := [2]) (i_seq (l_dat (d_var (pv 1)))) (blk_of (by kernel_rfl)) (by decide) (fun _ _ _ _ _ => g_name (pg_name S.nd rfl (by first | exact Or.inl rfl | exact Or.inr rfl))) (fun _ _ _ _ _ => wf_nil rfl rfl) (fun _ _ _ _ _ => d_call (c_is_below.mono (by decide)) hr hgd rfl (da_dat (d_var (pv 2)) (da_dat (d_var (pv 0)) (da_nil))))))) (d_one (d_cmp (op_neA hr.units) ok_ne (d_ix (d_var (pv 1)) (d_int) (fun _ _ => rfl)) (d_ix (d_var (pv 1)) (d_int) (fun _ _ => rfl)) (nomark _)))))
def b_are_closed : Ss := sSeq (sSet 1 (rDcP (lD (cV 0)) (gN 2) tYes (cV 2) (cK (.bool true)) (([("pair", 2)] : List (Str × Nat)).map (·.2)))) (sSeq (sFor (lD (cV 0)) (gTup [gN 3, gN 4]) (sIf (tOr (tD (cInP false (cTup (dCons (cV 4) (dCons (cV 3) (dNil)))) 1)) (tNot (tD (cAll (nLc (lD (cV 0)) (gTup [gN 5, gN 6]) (tD (cBin opEq (cV 5) (cV 4))) (cInP false (cTup (dCons (cV 3) (dCons (cV 6) (dNil)))) 1) (([("near", 5), ("far", 6)] : List (Str × Nat)).map (·.2))))))) (sRet (cK (.bool false))) (sNext))) (sRet (cK (.bool true))))
def s_are_closed : Fs := bodyOf b_are_closed 6 false
theorem sc_are_closed : FnScope ["pairs", "known", "pair", "one", "other", "near", "far"] ["pairs"] (defScope (top 16)) := ⟨rfl, rfl, rfl, by decide +kernel, rfl, by decide +kernel, by decide +kernel⟩
theorem c_are_closed (g : G mg) (D : Df K mg "are_closed" (top 16)) : CalM P w K mg base 2 "are_closed" (spM K mg 1 s_are_closed) := by
  have S := sc_are_closed
  refine cal_def (k := 1) (n := 1) (m := 6) (ts := [1] ++ (([3] ++ ([4] ++ ([]))) ++ ([] ++ ([])) ++ ([]))) (N := ["pairs", "known", "pair", "one", "other", "near", "far"]) (ps := ["pairs"]) (b := b_are_closed) D S rfl rfl (fun _ _ _ _ _ _ us hl => match us, hl with | [_], _ => rfl) fun f cdv A outer s H E hr hgd => ?_
  refine s_seq ?_ ?_
  ·
    exact s_set S.nd rfl (by first | exact Or.inl rfl | exact Or.inr rfl) (r_dcP (own := [("pair", 2)]) (ts := [2]) (Room.one hr) rfl S.nd (i_seq (l_dat (d_var (pv 0)))) (blk_of (by kernel_rfl)) (by decide) (fun _ _ _ _ _ => g_name (pg_name S.nd rfl (by first | exact Or.inl rfl | exact Or.inr rfl))) (fun _ _ _ _ _ => wf_nil rfl rfl) (fun _ _ _ _ _ => d_var (pv 2)) (fun _ _ _ _ _ => d_bl))
  refine s_seq ?_ ?_
  ·
    refine s_for (passes_of rfl) rfl (i_seq (l_dat (d_var (pv 0)))) (g_tup rfl (gs_cons (g_name (pg_name S.nd rfl (by first | exact Or.inl rfl | exact Or.inr rfl))) (gs_cons (g_name (pg_name S.nd rfl (by first | exact Or.inl rfl | exact Or.inr rfl))) (gs_nil)))) ?_
    ·
      refine s_one ?_
      refine s_if (dt_bool (dw_or (dt_inP (Room.one hr) (d_tup (dd_cons (d_var (pv 4)) (dd_cons (d_var (pv 3)) (dd_nil)))) (pv 1) rfl) (dw_or1 (dt_not (dt_val (d_all (b := false) rfl rfl g.b_all (l_new (n_lc rfl S.nd (own := [("near", 5), ("far", 6)]) (ts := [5] ++ ([6] ++ ([]))) (i_seq (l_dat (d_var (pv 0)))) (blk_of (by kernel_rfl)) (by decide) (fun _ _ _ _ _ => g_tup rfl (gs_cons (g_name (pg_name S.nd rfl (by first | exact Or.inl rfl | exact Or.inr rfl))) (gs_cons (g_name (pg_name S.nd rfl (by first | exact Or.inl rfl | exact Or.inr rfl))) (gs_nil)))) (fun _ _ _ _ _ => wf_one (dt_cmp (op_eqA hr.units) ok_eq (d_var (pv 5)) (d_var (pv 4)) (nomark _))) (fun _ _ _ _ _ => d_inP (Room.one hr) (d_tup (dd_cons (d_var (pv 3)) (dd_cons (d_var (pv 6)) (dd_nil)))) (pv 1) rfl))))))))) ?_ ?_
      ·
        refine s_one ?_
        exact s_ret (d_bl)
      ·
        exact s_nil
  refine s_one ?_
  exact s_ret (d_bl)
def b_is_order_of : Ss := sSeq (sIf (tOr (tNot (tD (cCall 2 s_is_row (aD (cV 0) (aD (cK (.int 3)) (aNil)))))) (tOr (tNot (tD (cUn (opIsi [.str]) (cBin opIx (cV 0) (cK (.int 0)))))) (tD (cBin opNe (cBin opIx (cV 0) (cK (.int 0))) (cK (.str "order")))))) (sRet (cK (.bool false))) (sNext)) (sSeq (sIf (tOr (tNot (tD (cCall 2 s_is_below (aD (cBin opIx (cV 0) (cK (.int 1))) (aD (cBin opAdd (cK (.int 16)) (cK (.int 1))) (aNil)))))) (tOr (tD (cBin opEq (cBin opIx (cV 0) (cK (.int 1))) (cK (.int 0)))) (tNot (tD (cUn (opIsi [.tuple]) (cBin opIx (cV 0) (cK (.int 2)))))))) (sRet (cK (.bool false))) (sNext)) (sSeq (sIf (tNot (tD (cAll (nLc (lD (cBin opIx (cV 0) (cK (.int 2)))) (gN 1) (tYes) (cCall 2 s_is_pair_of (aD (cBin opIx (cV 0) (cK (.int 1))) (aD (cV 1) (aNil)))) (([("pair", 1)] : List (Str × Nat)).map (·.2)))))) (sRet (cK (.bool false))) (sNext)) (sRet (cAnd (cCall 1 s_is_rising (aD (cBin opIx (cV 0) (cK (.int 2))) (aNil))) (cCall 1 s_are_closed (aD (cBin opIx (cV 0) (cK (.int 2))) (aNil)))))))
def s_is_order_of : Fs := bodyOf b_is_order_of 1 false
theorem sc_is_order_of : FnScope ["value", "pair"] ["value"] (defScope (top 17)) := ⟨rfl, rfl, rfl, by decide +kernel, rfl, by decide +kernel, by decide +kernel⟩
theorem c_is_order_of (g : G mg) (D : Df K mg "is_order_of" (top 17)) (c_is_row : CalM P w K mg base 2 "is_row" (spM K mg 2 s_is_row)) (c_is_below : CalM P w K mg base 4 "is_below" (spM K mg 2 s_is_below)) (c_is_pair_of : CalM P w K mg base 5 "is_pair_of" (spM K mg 2 s_is_pair_of)) (c_is_rising : CalM P w K mg base 2 "is_rising" (spM K mg 1 s_is_rising)) (c_are_closed : CalM P w K mg base 2 "are_closed" (spM K mg 1 s_are_closed)) : CalM P w K mg base 6 "is_order_of" (spM K mg 1 s_is_order_of) := by
  have S := sc_is_order_of
  refine cal_def (k := 5) (n := 1) (m := 1) (ts := [] ++ ([]) ++ ([] ++ ([]) ++ ([] ++ ([]) ++ ([])))) (N := ["value", "pair"]) (ps := ["value"]) (b := b_is_order_of) D S rfl rfl (fun _ _ _ _ _ _ us hl => match us, hl with | [_], _ => rfl) fun f cdv A outer s H E hr hgd => ?_
  refine s_seq ?_ ?_
  ·
    refine s_if (dt_bool (dw_or (dt_not (dt_val (d_call (c_is_row.mono (by decide)) hr hgd rfl (da_dat (d_var (pv 0)) (da_dat (d_int) (da_nil)))))) (dw_or (dt_not (dt_val (d_isi .str rfl g.b_isinstance rfl g.b_str (by decide +kernel) (d_ix (d_var (pv 0)) (d_int) (fun _ _ => rfl))))) (dw_or1 (dt_cmp (op_neA hr.units) ok_ne (d_ix (d_var (pv 0)) (d_int) (fun _ _ => rfl)) (g.e_ORDER.elim fun _ h => d_gstr rfl h) (nomark _)))))) ?_ ?_
    ·
      refine s_one ?_
      exact s_ret (d_bl)
    ·
      exact s_nil
  refine s_seq ?_ ?_
  ·
    refine s_if (dt_bool (dw_or (dt_not (dt_val (d_call (c_is_below.mono (by decide)) hr hgd rfl (da_dat (d_ix (d_var (pv 0)) (d_int) (fun _ _ => rfl)) (da_dat (d_bin op_addA ok_add (g.e_MOST_WORKS.elim fun _ h => d_gint rfl h) (d_int)) (da_nil)))))) (dw_or (dt_cmp (op_eqA hr.units) ok_eq (d_ix (d_var (pv 0)) (d_int) (fun _ _ => rfl)) (d_int) (nomark _)) (dw_or1 (dt_not (dt_val (d_isi .tuple rfl g.b_isinstance rfl g.b_tuple (by decide +kernel) (d_ix (d_var (pv 0)) (d_int) (fun _ _ => rfl))))))))) ?_ ?_
    ·
      refine s_one ?_
      exact s_ret (d_bl)
    ·
      exact s_nil
  refine s_seq ?_ ?_
  ·
    refine s_if (dt_not (dt_val (d_all (b := false) rfl rfl g.b_all (l_new (n_lc rfl S.nd (own := [("pair", 1)]) (ts := [1]) (i_seq (l_dat (d_ix (d_var (pv 0)) (d_int) (fun _ _ => rfl)))) (blk_of (by kernel_rfl)) (by decide) (fun _ _ _ _ _ => g_name (pg_name S.nd rfl (by first | exact Or.inl rfl | exact Or.inr rfl))) (fun _ _ _ _ _ => wf_nil rfl rfl) (fun _ _ _ _ _ => d_call (c_is_pair_of.mono (by decide)) hr hgd rfl (da_dat (d_ix (d_var (pv 0)) (d_int) (fun _ _ => rfl)) (da_dat (d_var (pv 1)) (da_nil))))))))) ?_ ?_
    ·
      refine s_one ?_
      exact s_ret (d_bl)
    ·
      exact s_nil
  refine s_one ?_
  exact s_ret (d_and (d_call (c_is_rising.mono (by decide)) hr hgd rfl (da_dat (d_ix (d_var (pv 0)) (d_int) (fun _ _ => rfl)) (da_nil))) (d_one (d_call (c_are_closed.mono (by decide)) hr hgd rfl (da_dat (d_ix (d_var (pv 0)) (d_int) (fun _ _ => rfl)) (da_nil)))))
def b_is_work_of : Ss := sRet (cCall 2 s_is_below (aD (cV 1) (aD (cBin opIx (cV 0) (cK (.int 1))) (aNil))))
def s_is_work_of : Fs := bodyOf b_is_work_of 0 false
theorem sc_is_work_of : FnScope ["order", "value"] ["order", "value"] (defScope (top 18)) := ⟨rfl, rfl, rfl, by decide +kernel, rfl, by decide +kernel, by decide +kernel⟩
theorem c_is_work_of (g : G mg) (D : Df K mg "is_work_of" (top 18)) (c_is_below : CalM P w K mg base 4 "is_below" (spM K mg 2 s_is_below)) : CalM P w K mg base 5 "is_work_of" (spM K mg 2 s_is_work_of) := by
  have S := sc_is_work_of
  refine cal_def (k := 4) (n := 2) (m := 0) (ts := []) (N := ["order", "value"]) (ps := ["order", "value"]) (b := b_is_work_of) D S rfl rfl (fun _ _ _ _ _ _ us hl => match us, hl with | [_, _], _ => rfl) fun f cdv A outer s H E hr hgd => ?_
  refine s_one ?_
  exact s_ret (d_call (c_is_below.mono (by decide)) hr hgd rfl (da_dat (d_var (pv 1)) (da_dat (d_ix (d_var (pv 0)) (d_int) (fun _ _ => rfl)) (da_nil))))
def b_works_of : Ss := sRet (cBin opIx (cV 0) (cK (.int 1)))
def s_works_of : Fs := bodyOf b_works_of 0 false
theorem sc_works_of : FnScope ["order"] ["order"] (defScope (top 19)) := ⟨rfl, rfl, rfl, by decide +kernel, rfl, by decide +kernel, by decide +kernel⟩
theorem c_works_of (g : G mg) (D : Df K mg "works_of" (top 19)) : CalM P w K mg base 2 "works_of" (spM K mg 1 s_works_of) := by
  have S := sc_works_of
  refine cal_def (k := 1) (n := 1) (m := 0) (ts := []) (N := ["order"]) (ps := ["order"]) (b := b_works_of) D S rfl rfl (fun _ _ _ _ _ _ us hl => match us, hl with | [_], _ => rfl) fun f cdv A outer s H E hr hgd => ?_
  refine s_one ?_
  exact s_ret (d_ix (d_var (pv 0)) (d_int) (fun _ _ => rfl))
def b_pairs_of : Ss := sRet (cBin opIx (cV 0) (cK (.int 2)))
def s_pairs_of : Fs := bodyOf b_pairs_of 0 false
theorem sc_pairs_of : FnScope ["order"] ["order"] (defScope (top 20)) := ⟨rfl, rfl, rfl, by decide +kernel, rfl, by decide +kernel, by decide +kernel⟩
theorem c_pairs_of (g : G mg) (D : Df K mg "pairs_of" (top 20)) : CalM P w K mg base 2 "pairs_of" (spM K mg 1 s_pairs_of) := by
  have S := sc_pairs_of
  refine cal_def (k := 1) (n := 1) (m := 0) (ts := []) (N := ["order"]) (ps := ["order"]) (b := b_pairs_of) D S rfl rfl (fun _ _ _ _ _ _ us hl => match us, hl with | [_], _ => rfl) fun f cdv A outer s H E hr hgd => ?_
  refine s_one ?_
  exact s_ret (d_ix (d_var (pv 0)) (d_int) (fun _ _ => rfl))
def b_want_order : Ss := sSeq (sIf (tNot (tD (cCall 1 s_is_order_of (aD (cV 0) (aNil))))) (sStuck) (sNext)) (sRet (cV 0))
def s_want_order : Fs := bodyOf b_want_order 0 false
theorem sc_want_order : FnScope ["value"] ["value"] (defScope (top 23)) := ⟨rfl, rfl, rfl, by decide +kernel, rfl, by decide +kernel, by decide +kernel⟩
theorem c_want_order (g : G mg) (D : Df K mg "want_order" (top 23)) (c_is_order_of : CalM P w K mg base 6 "is_order_of" (spM K mg 1 s_is_order_of)) : CalM P w K mg base 7 "want_order" (spM K mg 1 s_want_order) := by
  have S := sc_want_order
  refine cal_def (k := 6) (n := 1) (m := 0) (ts := [] ++ ([]) ++ ([])) (N := ["value"]) (ps := ["value"]) (b := b_want_order) D S rfl rfl (fun _ _ _ _ _ _ us hl => match us, hl with | [_], _ => rfl) fun f cdv A outer s H E hr hgd => ?_
  refine s_seq ?_ ?_
  ·
    refine s_if (dt_not (dt_val (d_call (c_is_order_of.mono (by decide)) hr hgd rfl (da_dat (d_var (pv 0)) (da_nil))))) ?_ ?_
    ·
      refine s_one ?_
      exact s_stuck
    ·
      exact s_nil
  refine s_one ?_
  exact s_ret (d_var (pv 0))
def b_is_n_at : Ss := sSeq (sIf (tOr (tD (cBin opLt (cLenSetI (nLst (dCons (cV 1) (dCons (cV 2) (dCons (cV 3) (dCons (cV 4) (dNil))))))) (cK (.int 4)))) (tOr (tNot (tD (cCall 3 s_is_ahead_of (aD (cV 0) (aD (cV 1) (aD (cV 3) (aNil))))))) (tNot (tD (cCall 3 s_is_ahead_of (aD (cV 0) (aD (cV 2) (aD (cV 3) (aNil))))))))) (sRet (cK (.bool false))) (sNext)) (sSeq (sIf (tOr (tNot (tD (cCall 3 s_is_ahead_of (aD (cV 0) (aD (cV 2) (aD (cV 4) (aNil))))))) (tNot (tD (cCall 3 s_are_free_of (aD (cV 0) (aD (cV 1) (aD (cV 2) (aNil)))))))) (sRet (cK (.bool false))) (sNext)) (sRet (cAnd (cCall 3 s_are_free_of (aD (cV 0) (aD (cV 1) (aD (cV 4) (aNil))))) (cCall 3 s_are_free_of (aD (cV 0) (aD (cV 3) (aD (cV 4) (aNil))))))))
def s_is_n_at : Fs := bodyOf b_is_n_at 0 false
theorem sc_is_n_at : FnScope ["order", "a", "b", "c", "d"] ["order", "a", "b", "c", "d"] (defScope (top 30)) := ⟨rfl, rfl, rfl, by decide +kernel, rfl, by decide +kernel, by decide +kernel⟩
theorem c_is_n_at (g : G mg) (D : Df K mg "is_n_at" (top 30)) (c_is_ahead_of : CalM P w K mg base 2 "is_ahead_of" (spM K mg 3 s_is_ahead_of)) (c_are_free_of : CalM P w K mg base 3 "are_free_of" (spM K mg 3 s_are_free_of)) : CalM P w K mg base 4 "is_n_at" (spM K mg 5 s_is_n_at) := by
  have S := sc_is_n_at
  refine cal_def (k := 3) (n := 5) (m := 0) (ts := [] ++ ([]) ++ ([] ++ ([]) ++ ([]))) (N := ["order", "a", "b", "c", "d"]) (ps := ["order", "a", "b", "c", "d"]) (b := b_is_n_at) D S rfl rfl (fun _ _ _ _ _ _ us hl => match us, hl with | [_, _, _, _, _], _ => rfl) fun f cdv A outer s H E hr hgd => ?_
  refine s_seq ?_ ?_
  ·
    refine s_if (dt_bool (dw_or (dt_cmp (op_ltA hr.units) ok_lt (d_lenSetA (b := false) (c := true) rfl rfl g.b_len rfl g.b_set (l_new (n_lst (dd_cons (d_var (pv 1)) (dd_cons (d_var (pv 2)) (dd_cons (d_var (pv 3)) (dd_cons (d_var (pv 4)) (dd_nil)))))))) (d_int) (nomark _)) (dw_or (dt_not (dt_val (d_call (c_is_ahead_of.mono (by decide)) hr hgd rfl (da_dat (d_var (pv 0)) (da_dat (d_var (pv 1)) (da_dat (d_var (pv 3)) (da_nil))))))) (dw_or1 (dt_not (dt_val (d_call (c_is_ahead_of.mono (by decide)) hr hgd rfl (da_dat (d_var (pv 0)) (da_dat (d_var (pv 2)) (da_dat (d_var (pv 3)) (da_nil))))))))))) ?_ ?_
    ·
      refine s_one ?_
      exact s_ret (d_bl)
    ·
      exact s_nil
  refine s_seq ?_ ?_
  ·
    refine s_if (dt_bool (dw_or (dt_not (dt_val (d_call (c_is_ahead_of.mono (by decide)) hr hgd rfl (da_dat (d_var (pv 0)) (da_dat (d_var (pv 2)) (da_dat (d_var (pv 4)) (da_nil))))))) (dw_or1 (dt_not (dt_val (d_call (c_are_free_of.mono (by decide)) hr hgd rfl (da_dat (d_var (pv 0)) (da_dat (d_var (pv 1)) (da_dat (d_var (pv 2)) (da_nil)))))))))) ?_ ?_
    ·
      refine s_one ?_
      exact s_ret (d_bl)
    ·
      exact s_nil
  refine s_one ?_
  exact s_ret (d_and (d_call (c_are_free_of.mono (by decide)) hr hgd rfl (da_dat (d_var (pv 0)) (da_dat (d_var (pv 1)) (da_dat (d_var (pv 4)) (da_nil))))) (d_one (d_call (c_are_free_of.mono (by decide)) hr hgd rfl (da_dat (d_var (pv 0)) (da_dat (d_var (pv 3)) (da_dat (d_var (pv 4)) (da_nil)))))))
def b_is_n_of : Ss := sSeq (sIf (tOr (tNot (tD (cCall 2 s_is_row (aD (cV 1) (aD (cK (.int 4)) (aNil)))))) (tNot (tD (cAll (nLc (lD (cV 1)) (gN 2) (tYes) (cCall 2 s_is_work_of (aD (cV 0) (aD (cV 2) (aNil)))) (([("work", 2)] : List (Str × Nat)).map (·.2))))))) (sRet (cK (.bool false))) (sNext)) (sRet (cCall 5 s_is_n_at (aD (cV 0) (aD (cBin opIx (cV 1) (cK (.int 0))) (aD (cBin opIx (cV 1) (cK (.int 1))) (aD (cBin opIx (cV 1) (cK (.int 2))) (aD (cBin opIx (cV 1) (cK (.int 3))) (aNil))))))))
def s_is_n_of : Fs := bodyOf b_is_n_of 1 false
theorem sc_is_n_of : FnScope ["order", "value", "work"] ["order", "value"] (defScope (top 31)) := ⟨rfl, rfl, rfl, by decide +kernel, rfl, by decide +kernel, by decide +kernel⟩
theorem c_is_n_of (g : G mg) (D : Df K mg "is_n_of" (top 31)) (c_is_row : CalM P w K mg base 2 "is_row" (spM K mg 2 s_is_row)) (c_is_work_of : CalM P w K mg base 5 "is_work_of" (spM K mg 2 s_is_work_of)) (c_is_n_at : CalM P w K mg base 4 "is_n_at" (spM K mg 5 s_is_n_at)) : CalM P w K mg base 6 "is_n_of" (spM K mg 2 s_is_n_of) := by
  have S := sc_is_n_of
  refine cal_def (k := 5) (n := 2) (m := 1) (ts := [] ++ ([]) ++ ([])) (N := ["order", "value", "work"]) (ps := ["order", "value"]) (b := b_is_n_of) D S rfl rfl (fun _ _ _ _ _ _ us hl => match us, hl with | [_, _], _ => rfl) fun f cdv A outer s H E hr hgd => ?_
  refine s_seq ?_ ?_
  ·
    refine s_if (dt_bool (dw_or (dt_not (dt_val (d_call (c_is_row.mono (by decide)) hr hgd rfl (da_dat (d_var (pv 1)) (da_dat (d_int) (da_nil)))))) (dw_or1 (dt_not (dt_val (d_all (b := false) rfl rfl g.b_all (l_new (n_lc rfl S.nd (own := [("work", 2)]) (ts := [2]) (i_seq (l_dat (d_var (pv 1)))) (blk_of (by kernel_rfl)) (by decide) (fun _ _ _ _ _ => g_name (pg_name S.nd rfl (by first | exact Or.inl rfl | exact Or.inr rfl))) (fun _ _ _ _ _ => wf_nil rfl rfl) (fun _ _ _ _ _ => d_call (c_is_work_of.mono (by decide)) hr hgd rfl (da_dat (d_var (pv 0)) (da_dat (d_var (pv 2)) (da_nil)))))))))))) ?_ ?_
    ·
      refine s_one ?_
      exact s_ret (d_bl)
    ·
      exact s_nil
  refine s_one ?_
  exact s_ret (d_call (c_is_n_at.mono (by decide)) hr hgd rfl (da_dat (d_var (pv 0)) (da_dat (d_ix (d_var (pv 1)) (d_int) (fun _ _ => rfl)) (da_dat (d_ix (d_var (pv 1)) (d_int) (fun _ _ => rfl)) (da_dat (d_ix (d_var (pv 1)) (d_int) (fun _ _ => rfl)) (da_dat (d_ix (d_var (pv 1)) (d_int) (fun _ _ => rfl)) (da_nil)))))))
def b_are_unpaired : Ss := sRet (cAnd (cBin opNe (cV 1) (cV 2)) (cAnd (cInP true (cTup (dCons (cV 1) (dCons (cV 2) (dNil)))) 0) (cInP true (cTup (dCons (cV 2) (dCons (cV 1) (dNil)))) 0)))
def s_are_unpaired : Fs := bodyOf b_are_unpaired 0 false
theorem sc_are_unpaired : FnScope ["known", "one", "other"] ["known", "one", "other"] (defScope (top 32)) := ⟨rfl, rfl, rfl, by decide +kernel, rfl, by decide +kernel, by decide +kernel⟩
theorem c_are_unpaired (g : G mg) (D : Df K mg "are_unpaired" (top 32)) : CalM P w K mg base 2 "are_unpaired" (spM K mg 3 s_are_unpaired) := by
  have S := sc_are_unpaired
  refine cal_def (k := 1) (n := 3) (m := 0) (ts := []) (N := ["known", "one", "other"]) (ps := ["known", "one", "other"]) (b := b_are_unpaired) D S rfl rfl (fun _ _ _ _ _ _ us hl => match us, hl with | [_, _, _], _ => rfl) fun f cdv A outer s H E hr hgd => ?_
  refine s_one ?_
  exact s_ret (d_and (d_cmp (op_neA hr.units) ok_ne (d_var (pv 1)) (d_var (pv 2)) (nomark _)) (d_and (d_notInP (Room.one hr) (d_tup (dd_cons (d_var (pv 1)) (dd_cons (d_var (pv 2)) (dd_nil)))) (pv 0) rfl) (d_one (d_notInP (Room.one hr) (d_tup (dd_cons (d_var (pv 2)) (dd_cons (d_var (pv 1)) (dd_nil)))) (pv 0) rfl))))
def b_ns_of : Ss := sSeq (sPar3 1 2 3 (rDcP (lD (cCall 1 s_pairs_of (aD (cV 0) (aNil)))) (gN 4) tYes (cV 4) (cK (.bool true)) (([("pair", 4)] : List (Str × Nat)).map (·.2))) (rD (cN (nRg1 (cCall 1 s_works_of (aD (cV 0) (aNil)))))) (rN (nLst (dNil)))) (sSeq (sFor (iKeysP 1) (gTup [gN 5, gN 6]) (sFor (lD (cV 2)) (gN 7) (sIf (tAnd (tD (cInP false (cTup (dCons (cV 5) (dCons (cV 7) (dNil)))) 1)) (tD (cCall 3 s_are_unpaired (aKP 1 (aD (cV 6) (aD (cV 7) (aNil))))))) (sSeq (sSet 8 (rD (cN (nLc (lD (cV 2)) (gN 9) (tAnd (tD (cInP false (cTup (dCons (cV 9) (dCons (cV 6) (dNil)))) 1)) (tAnd (tD (cCall 3 s_are_unpaired (aKP 1 (aD (cV 9) (aD (cV 5) (aNil)))))) (tD (cCall 3 s_are_unpaired (aKP 1 (aD (cV 9) (aD (cV 7) (aNil)))))))) (cV 9) (([("a", 9)] : List (Str × Nat)).map (·.2)))))) (sExt 3 (cN (nLc (lD (cV 8)) (gN 9) (tYes) (cTup (dCons (cV 9) (dCons (cV 5) (dCons (cV 6) (dCons (cV 7) (dNil)))))) (([("a", 9)] : List (Str × Nat)).map (·.2)))))) (sNext)))) (sRet (cN (nSorted (lV 3)))))
def s_ns_of : Fs := bodyOf b_ns_of 9 false
theorem sc_ns_of : FnScope ["order", "known", "works", "found", "pair", "b", "c", "d", "some", "a"] ["order"] (defScope (top 33)) := ⟨rfl, rfl, rfl, by decide +kernel, rfl, by decide +kernel, by decide +kernel⟩
theorem c_ns_of (g : G mg) (D : Df K mg "ns_of" (top 33)) (c_pairs_of : CalM P w K mg base 2 "pairs_of" (spM K mg 1 s_pairs_of)) (c_works_of : CalM P w K mg base 2 "works_of" (spM K mg 1 s_works_of)) (c_are_unpaired : CalM P w K mg base 2 "are_unpaired" (spM K mg 3 s_are_unpaired)) : CalM P w K mg base 3 "ns_of" (spM K mg 1 s_ns_of) := by
  have S := sc_ns_of
  refine cal_def (k := 2) (n := 1) (m := 9) (ts := [1, 2, 3] ++ (([5] ++ ([6] ++ ([]))) ++ ([7] ++ (([8] ++ ([])) ++ ([]))) ++ ([]))) (N := ["order", "known", "works", "found", "pair", "b", "c", "d", "some", "a"]) (ps := ["order"]) (b := b_ns_of) D S rfl rfl (fun _ _ _ _ _ _ us hl => match us, hl with | [_], _ => rfl) fun f cdv A outer s H E hr hgd => ?_
  refine s_seq ?_ ?_
  ·
    first
      | exact s_par3 rfl S.nd rfl rfl rfl (by decide) (by decide) (by decide) rfl rfl rfl (r_dcP (own := [("pair", 4)]) (ts := [4]) (Room.one hr) rfl S.nd (i_seq (l_dat (d_call (c_pairs_of.mono (by decide)) hr hgd rfl (da_dat (d_var (pv 0)) (da_nil))))) (blk_of (by kernel_rfl)) (by decide) (fun _ _ _ _ _ => g_name (pg_name S.nd rfl (by first | exact Or.inl rfl | exact Or.inr rfl))) (fun _ _ _ _ _ => wf_nil rfl rfl) (fun _ _ _ _ _ => d_var (pv 4)) (fun _ _ _ _ _ => d_bl)) (r_dat (d_new (n_rg1 rfl rfl g.b_list rfl g.b_range (d_call (c_works_of.mono (by decide)) hr hgd rfl (da_dat (d_var (pv 0)) (da_nil)))))) (r_new (n_lst (dd_nil))) rfl
      | exact s_par3C rfl S.nd rfl rfl rfl (by first | exact Or.inl rfl | exact Or.inr rfl) (by first | exact Or.inl rfl | exact Or.inr rfl) (by first | exact Or.inl rfl | exact Or.inr rfl) (r_dcP (own := [("pair", 4)]) (ts := [4]) (Room.one hr) rfl S.nd (i_seq (l_dat (d_call (c_pairs_of.mono (by decide)) hr hgd rfl (da_dat (d_var (pv 0)) (da_nil))))) (blk_of (by kernel_rfl)) (by decide) (fun _ _ _ _ _ => g_name (pg_name S.nd rfl (by first | exact Or.inl rfl | exact Or.inr rfl))) (fun _ _ _ _ _ => wf_nil rfl rfl) (fun _ _ _ _ _ => d_var (pv 4)) (fun _ _ _ _ _ => d_bl)) (r_dat (d_new (n_rg1 rfl rfl g.b_list rfl g.b_range (d_call (c_works_of.mono (by decide)) hr hgd rfl (da_dat (d_var (pv 0)) (da_nil)))))) (r_new (n_lst (dd_nil))) rfl rfl rfl
  refine s_seq ?_ ?_
  ·
    refine s_for (passes_of rfl) rfl (i_keysP (pv 1)) (g_tup rfl (gs_cons (g_name (pg_name S.nd rfl (by first | exact Or.inl rfl | exact Or.inr rfl))) (gs_cons (g_name (pg_name S.nd rfl (by first | exact Or.inl rfl | exact Or.inr rfl))) (gs_nil)))) ?_
    ·
      refine s_one ?_
      refine s_for (passes_of rfl) rfl (i_seq (l_dat (d_var (pv 2)))) (g_name (pg_name S.nd rfl (by first | exact Or.inl rfl | exact Or.inr rfl))) ?_
      ·
        refine s_one ?_
        refine s_if (dt_bool (dw_and (dt_inP (Room.one hr) (d_tup (dd_cons (d_var (pv 5)) (dd_cons (d_var (pv 7)) (dd_nil)))) (pv 1) rfl) (dw_and1 (dt_val (d_call (c_are_unpaired.mono (by decide)) hr hgd rfl (da_kp (pv 1) (da_dat (d_var (pv 6)) (da_dat (d_var (pv 7)) (da_nil))))))))) ?_ ?_
        ·
          refine s_seq ?_ ?_
          ·
            first
              | exact s_setLcD rfl S.nd rfl rfl (sw_true rfl rfl rfl rfl) (own := [("a", 9)]) (ts := [9]) (i_seq (l_dat (d_var (pv 2)))) (blk_of (by kernel_rfl)) (by decide) (fun _ _ _ _ _ => g_name (pg_name S.nd rfl (by first | exact Or.inl rfl | exact Or.inr rfl))) (fun _ _ _ _ _ => wf_one (dt_bool (dw_and (dt_inP (Room.one hr) (d_tup (dd_cons (d_var (pv 9)) (dd_cons (d_var (pv 6)) (dd_nil)))) (pv 1) rfl) (dw_and (dt_val (d_call (c_are_unpaired.mono (by decide)) hr hgd rfl (da_kp (pv 1) (da_dat (d_var (pv 9)) (da_dat (d_var (pv 5)) (da_nil)))))) (dw_and1 (dt_val (d_call (c_are_unpaired.mono (by decide)) hr hgd rfl (da_kp (pv 1) (da_dat (d_var (pv 9)) (da_dat (d_var (pv 7)) (da_nil))))))))))) (fun _ _ _ _ _ => d_var (pv 9)) (fun _ => rfl)
              | exact s_set S.nd rfl (by first | exact Or.inl rfl | exact Or.inr rfl) (r_dat (d_new (n_lc rfl S.nd (own := [("a", 9)]) (ts := [9]) (i_seq (l_dat (d_var (pv 2)))) (blk_of (by kernel_rfl)) (by decide) (fun _ _ _ _ _ => g_name (pg_name S.nd rfl (by first | exact Or.inl rfl | exact Or.inr rfl))) (fun _ _ _ _ _ => wf_one (dt_bool (dw_and (dt_inP (Room.one hr) (d_tup (dd_cons (d_var (pv 9)) (dd_cons (d_var (pv 6)) (dd_nil)))) (pv 1) rfl) (dw_and (dt_val (d_call (c_are_unpaired.mono (by decide)) hr hgd rfl (da_kp (pv 1) (da_dat (d_var (pv 9)) (da_dat (d_var (pv 5)) (da_nil)))))) (dw_and1 (dt_val (d_call (c_are_unpaired.mono (by decide)) hr hgd rfl (da_kp (pv 1) (da_dat (d_var (pv 9)) (da_dat (d_var (pv 7)) (da_nil))))))))))) (fun _ _ _ _ _ => d_var (pv 9)))))
          refine s_one ?_
          exact s_ext (pv 3) (d_new (n_lc rfl S.nd (own := [("a", 9)]) (ts := [9]) (i_seq (l_dat (d_var (pv 8)))) (blk_of (by kernel_rfl)) (by decide) (fun _ _ _ _ _ => g_name (pg_name S.nd rfl (by first | exact Or.inl rfl | exact Or.inr rfl))) (fun _ _ _ _ _ => wf_nil rfl rfl) (fun _ _ _ _ _ => d_tup (dd_cons (d_var (pv 9)) (dd_cons (d_var (pv 5)) (dd_cons (d_var (pv 6)) (dd_cons (d_var (pv 7)) (dd_nil)))))))) rfl rfl rfl rfl rfl rfl
        ·
          exact s_nil
  refine s_one ?_
  exact s_ret (d_new (n_sortedA (b := false) (c := true) hr.units rfl g.b_sorted (l_own (pv 3))))
def b_works_in (self : Fs) : Ss := sSeq (sIf (tD (cBin opEq (cBin opIx (cV 0) (cK (.int 0))) (cK (.str "work")))) (sRet (cN (nLst (dCons (cBin opIx (cV 0) (cK (.int 1))) (dNil))))) (sNext)) (sSeq (sSet 1 (rN (nLst (dNil)))) (sSeq (sFor (lD (cBin opIx (cV 0) (cK (.int 1)))) (gN 2) (sExt 1 (cCall 1 self (aD (cV 2) (aNil))))) (sRet (cFzA 1))))
def s_works_in : Nat → Fs
  | 0 => fun _ => .stuck
  | n + 1 => bodyOf (b_works_in (s_works_in n)) 2 false
theorem sc_works_in : FnScope ["node", "found", "part"] ["node"] (defScope (top 34)) := ⟨rfl, rfl, rfl, by decide +kernel, rfl, by decide +kernel, by decide +kernel⟩
theorem c_works_in (g : G mg) (D : Df K mg "works_in" (top 34)) : ∀ n : Nat, CalM P w K mg base (1 + n) "works_in" (spM K mg 1 (s_works_in n))
  | 0 => cal_zero (n := 1) (ps := ["node"]) D rfl (fun _ _ _ _ _ _ us hl => match us, hl with | [_], _ => rfl)
  | n + 1 => by
    have ih := c_works_in g D  n
    have S := sc_works_in
    have KK : ∀ {j : Nat}, j ≤ 1 → j ≤ 1 + n := fun h => Nat.le_trans h (Nat.le_add_right _ _)
    refine cal_def (n := 1) (m := 2) (ts := [] ++ ([]) ++ ([1] ++ ([2] ++ ([]) ++ ([])))) (N := ["node", "found", "part"]) (ps := ["node"]) (b := b_works_in (s_works_in n)) D S rfl rfl (fun _ _ _ _ _ _ us hl => match us, hl with | [_], _ => rfl) fun f cdv A outer s H E hr hgd => ?_
    refine s_seq ?_ ?_
    ·
      refine s_if (dt_cmp (op_eqA hr.units) ok_eq (d_ix (d_var (pv 0)) (d_int) (fun _ _ => rfl)) (g.e_WORK.elim fun _ h => d_gstr rfl h) (nomark _)) ?_ ?_
      ·
        refine s_one ?_
        exact s_ret (d_new (n_lst (dd_cons (d_ix (d_var (pv 0)) (d_int) (fun _ _ => rfl)) (dd_nil))))
      ·
        exact s_nil
    refine s_seq ?_ ?_
    ·
      exact s_set S.nd rfl (by first | exact Or.inl rfl | exact Or.inr rfl) (r_new (n_lst (dd_nil)))
    refine s_seq ?_ ?_
    ·
      refine s_for (passes_of rfl) rfl (i_seq (l_dat (d_ix (d_var (pv 0)) (d_int) (fun _ _ => rfl)))) (g_name (pg_name S.nd rfl (by first | exact Or.inl rfl | exact Or.inr rfl))) ?_
      ·
        refine s_one ?_
        exact s_ext (pv 1) (d_call ih hr hgd rfl (da_dat (d_var (pv 2)) (da_nil))) rfl rfl rfl rfl rfl rfl
    refine s_one ?_
    exact s_ret (d_fzA (pv 1))
def b_least_work : Ss := sRet (cMin (lDl (cCall 1 (s_works_in 24) (aD (cV 0) (aNil)))))
def s_least_work : Fs := bodyOf b_least_work 0 false
theorem sc_least_work : FnScope ["node"] ["node"] (defScope (top 35)) := ⟨rfl, rfl, rfl, by decide +kernel, rfl, by decide +kernel, by decide +kernel⟩
theorem c_least_work (g : G mg) (D : Df K mg "least_work" (top 35)) (c_works_in : CalM P w K mg base 25 "works_in" (spM K mg 1 (s_works_in 24))) : CalM P w K mg base 26 "least_work" (spM K mg 1 s_least_work) := by
  have S := sc_least_work
  refine cal_def (k := 25) (n := 1) (m := 0) (ts := []) (N := ["node"]) (ps := ["node"]) (b := b_least_work) D S rfl rfl (fun _ _ _ _ _ _ us hl => match us, hl with | [_], _ => rfl) fun f cdv A outer s H E hr hgd => ?_
  refine s_one ?_
  exact s_ret (d_min (b := false) rfl rfl g.b_min (l_datL (d_call (c_works_in.mono (by decide)) hr hgd rfl (da_dat (d_var (pv 0)) (da_nil)))))
def b_is_node_of (self : Fs) : Ss := sSeq (sIf (tOr (tNot (tD (cCall 2 s_is_row (aD (cV 1) (aD (cK (.int 2)) (aNil)))))) (tNot (tD (cUn (opIsi [.str]) (cBin opIx (cV 1) (cK (.int 0))))))) (sRet (cK (.bool false))) (sNext)) (sSeq (sIf (tD (cBin opEq (cBin opIx (cV 1) (cK (.int 0))) (cK (.str "work")))) (sRet (cCall 2 s_is_below (aD (cBin opIx (cV 1) (cK (.int 1))) (aD (cV 0) (aNil))))) (sNext)) (sSeq (sIf (tOr (tD (cIn true (cBin opIx (cV 1) (cK (.int 0))) (lD (cTup (dCons (cK (.str "behind")) (dCons (cK (.str "beside")) (dNil))))))) (tOr (tNot (tD (cUn (opIsi [.tuple]) (cBin opIx (cV 1) (cK (.int 1)))))) (tD (cBin opLt (cLen (lD (cBin opIx (cV 1) (cK (.int 1))))) (cK (.int 2)))))) (sRet (cK (.bool false))) (sNext)) (sSeq (sIf (tNot (tD (cAll (nLc (lD (cBin opIx (cV 1) (cK (.int 1)))) (gN 2) (tYes) (cAnd (cCall 2 self (aD (cV 0) (aD (cV 2) (aNil)))) (cBin opNe (cBin opIx (cV 2) (cK (.int 0))) (cBin opIx (cV 1) (cK (.int 0))))) (([("part", 2)] : List (Str × Nat)).map (·.2)))))) (sRet (cK (.bool false))) (sNext)) (sSeq (sSet 3 (rD (cN (nLc (lD (cBin opIx (cV 1) (cK (.int 1)))) (gN 2) (tYes) (cCall 1 s_least_work (aD (cV 2) (aNil))) (([("part", 2)] : List (Str × Nat)).map (·.2)))))) (sRet (cOr (cBin opEq (cBin opIx (cV 1) (cK (.int 0))) (cK (.str "behind"))) (cAll (nLc (iZipD (cV 3) (cSl (cV 3) (oSome (cK (.int 1))) (oNone))) (gTup [gN 4, gN 5]) (tYes) (cBin opLt (cV 4) (cV 5)) (([("near", 4), ("far", 5)] : List (Str × Nat)).map (·.2))))))))))
def s_is_node_of : Nat → Fs
  | 0 => fun _ => .stuck
  | n + 1 => bodyOf (b_is_node_of (s_is_node_of n)) 4 false
theorem sc_is_node_of : FnScope ["many", "value", "part", "least", "near", "far"] ["many", "value"] (defScope (top 36)) := ⟨rfl, rfl, rfl, by decide +kernel, rfl, by decide +kernel, by decide +kernel⟩
theorem c_is_node_of (g : G mg) (D : Df K mg "is_node_of" (top 36)) (c_is_row : CalM P w K mg base 2 "is_row" (spM K mg 2 s_is_row)) (c_is_below : CalM P w K mg base 4 "is_below" (spM K mg 2 s_is_below)) (c_least_work : CalM P w K mg base 26 "least_work" (spM K mg 1 s_least_work)) : ∀ n : Nat, CalM P w K mg base (26 + n) "is_node_of" (spM K mg 2 (s_is_node_of n))
  | 0 => cal_zero (n := 2) (ps := ["many", "value"]) D rfl (fun _ _ _ _ _ _ us hl => match us, hl with | [_, _], _ => rfl)
  | n + 1 => by
    have ih := c_is_node_of g D c_is_row c_is_below c_least_work n
    have S := sc_is_node_of
    have KK : ∀ {j : Nat}, j ≤ 26 → j ≤ 26 + n := fun h => Nat.le_trans h (Nat.le_add_right _ _)
    refine cal_def (n := 2) (m := 4) (ts := [] ++ ([]) ++ ([] ++ ([]) ++ ([] ++ ([]) ++ ([] ++ ([]) ++ ([3] ++ ([])))))) (N := ["many", "value", "part", "least", "near", "far"]) (ps := ["many", "value"]) (b := b_is_node_of (s_is_node_of n)) D S rfl rfl (fun _ _ _ _ _ _ us hl => match us, hl with | [_, _], _ => rfl) fun f cdv A outer s H E hr hgd => ?_
    refine s_seq ?_ ?_
    ·
      refine s_if (dt_bool (dw_or (dt_not (dt_val (d_call (c_is_row.mono (KK (by decide))) hr hgd rfl (da_dat (d_var (pv 1)) (da_dat (d_int) (da_nil)))))) (dw_or1 (dt_not (dt_val (d_isi .str rfl g.b_isinstance rfl g.b_str (by decide +kernel) (d_ix (d_var (pv 1)) (d_int) (fun _ _ => rfl)))))))) ?_ ?_
      ·
        refine s_one ?_
        exact s_ret (d_bl)
      ·
        exact s_nil
    refine s_seq ?_ ?_
    ·
      refine s_if (dt_cmp (op_eqA hr.units) ok_eq (d_ix (d_var (pv 1)) (d_int) (fun _ _ => rfl)) (g.e_WORK.elim fun _ h => d_gstr rfl h) (nomark _)) ?_ ?_
      ·
        refine s_one ?_
        exact s_ret (d_call (c_is_below.mono (KK (by decide))) hr hgd rfl (da_dat (d_ix (d_var (pv 1)) (d_int) (fun _ _ => rfl)) (da_dat (d_var (pv 0)) (da_nil))))
      ·
        exact s_nil
    refine s_seq ?_ ?_
    ·
      refine s_if (dt_bool (dw_or (dt_notIn (b := false) (c := true) hr.units (d_ix (d_var (pv 1)) (d_int) (fun _ _ => rfl)) (l_dat (d_tup (dd_cons (g.e_BEHIND.elim fun _ h => d_gstr rfl h) (dd_cons (g.e_BESIDE.elim fun _ h => d_gstr rfl h) (dd_nil))))) rfl) (dw_or (dt_not (dt_val (d_isi .tuple rfl g.b_isinstance rfl g.b_tuple (by decide +kernel) (d_ix (d_var (pv 1)) (d_int) (fun _ _ => rfl))))) (dw_or1 (dt_cmp (op_ltA hr.units) ok_lt (d_len (b := false) (c := true) rfl g.b_len (l_dat (d_ix (d_var (pv 1)) (d_int) (fun _ _ => rfl)))) (d_int) (nomark _)))))) ?_ ?_
      ·
        refine s_one ?_
        exact s_ret (d_bl)
      ·
        exact s_nil
    refine s_seq ?_ ?_
    ·
      refine s_if (dt_not (dt_val (d_all (b := false) rfl rfl g.b_all (l_new (n_lc rfl S.nd (own := [("part", 2)]) (ts := [2]) (i_seq (l_dat (d_ix (d_var (pv 1)) (d_int) (fun _ _ => rfl)))) (blk_of (by kernel_rfl)) (by decide) (fun _ _ _ _ _ => g_name (pg_name S.nd rfl (by first | exact Or.inl rfl | exact Or.inr rfl))) (fun _ _ _ _ _ => wf_nil rfl rfl) (fun _ _ _ _ _ => d_and (d_call ih hr hgd rfl (da_dat (d_var (pv 0)) (da_dat (d_var (pv 2)) (da_nil)))) (d_one (d_cmp (op_neA hr.units) ok_ne (d_ix (d_var (pv 2)) (d_int) (fun _ _ => rfl)) (d_ix (d_var (pv 1)) (d_int) (fun _ _ => rfl)) (nomark _))))))))) ?_ ?_
      ·
        refine s_one ?_
        exact s_ret (d_bl)
      ·
        exact s_nil
    refine s_seq ?_ ?_
    ·
      first
        | exact s_setLcD rfl S.nd rfl rfl (sw_true rfl rfl rfl rfl) (own := [("part", 2)]) (ts := [2]) (i_seq (l_dat (d_ix (d_var (pv 1)) (d_int) (fun _ _ => rfl)))) (blk_of (by kernel_rfl)) (by decide) (fun _ _ _ _ _ => g_name (pg_name S.nd rfl (by first | exact Or.inl rfl | exact Or.inr rfl))) (fun _ _ _ _ _ => wf_nil rfl rfl) (fun _ _ _ _ _ => d_call (c_least_work.mono (KK (by decide))) hr hgd rfl (da_dat (d_var (pv 2)) (da_nil))) (fun _ => rfl)
        | exact s_set S.nd rfl (by first | exact Or.inl rfl | exact Or.inr rfl) (r_dat (d_new (n_lc rfl S.nd (own := [("part", 2)]) (ts := [2]) (i_seq (l_dat (d_ix (d_var (pv 1)) (d_int) (fun _ _ => rfl)))) (blk_of (by kernel_rfl)) (by decide) (fun _ _ _ _ _ => g_name (pg_name S.nd rfl (by first | exact Or.inl rfl | exact Or.inr rfl))) (fun _ _ _ _ _ => wf_nil rfl rfl) (fun _ _ _ _ _ => d_call (c_least_work.mono (KK (by decide))) hr hgd rfl (da_dat (d_var (pv 2)) (da_nil))))))
    refine s_one ?_
    exact s_ret (d_or (d_cmp (op_eqA hr.units) ok_eq (d_ix (d_var (pv 1)) (d_int) (fun _ _ => rfl)) (g.e_BEHIND.elim fun _ h => d_gstr rfl h) (nomark _)) (d_one (d_all (b := false) rfl rfl g.b_all (l_new (n_lc rfl S.nd (own := [("near", 4), ("far", 5)]) (ts := [4] ++ ([5] ++ ([]))) (i_zipD rfl g.b_zip (d_var (pv 3)) (d_sl (d_var (pv 3)) (o_some (d_int)) o_none)) (blk_of (by kernel_rfl)) (by decide) (fun _ _ _ _ _ => g_tup rfl (gs_cons (g_name (pg_name S.nd rfl (by first | exact Or.inl rfl | exact Or.inr rfl))) (gs_cons (g_name (pg_name S.nd rfl (by first | exact Or.inl rfl | exact Or.inr rfl))) (gs_nil)))) (fun _ _ _ _ _ => wf_nil rfl rfl) (fun _ _ _ _ _ => d_cmp (op_ltA hr.units) ok_lt (d_var (pv 4)) (d_var (pv 5)) (nomark _)))))))
def b_is_any_making : Ss := sSeq (sIf (tNot (tD (cCall 2 (s_is_node_of 24) (aD (cK (.int 16)) (aD (cV 0) (aNil)))))) (sRet (cK (.bool false))) (sNext)) (sSeq (sSet 1 (rD (cCall 1 (s_works_in 24) (aD (cV 0) (aNil))))) (sRet (cBin opEq (cN (nSorted (lD (cV 1)))) (cN (nRg1 (cLen (lD (cV 1))))))))
def s_is_any_making : Fs := bodyOf b_is_any_making 1 false
theorem sc_is_any_making : FnScope ["value", "some"] ["value"] (defScope (top 37)) := ⟨rfl, rfl, rfl, by decide +kernel, rfl, by decide +kernel, by decide +kernel⟩
theorem c_is_any_making (g : G mg) (D : Df K mg "is_any_making" (top 37)) (c_is_node_of : CalM P w K mg base 50 "is_node_of" (spM K mg 2 (s_is_node_of 24))) (c_works_in : CalM P w K mg base 25 "works_in" (spM K mg 1 (s_works_in 24))) : CalM P w K mg base 51 "is_any_making" (spM K mg 1 s_is_any_making) := by
  have S := sc_is_any_making
  refine cal_def (k := 50) (n := 1) (m := 1) (ts := [] ++ ([]) ++ ([1] ++ ([]))) (N := ["value", "some"]) (ps := ["value"]) (b := b_is_any_making) D S rfl rfl (fun _ _ _ _ _ _ us hl => match us, hl with | [_], _ => rfl) fun f cdv A outer s H E hr hgd => ?_
  refine s_seq ?_ ?_
  ·
    refine s_if (dt_not (dt_val (d_call (c_is_node_of.mono (by decide)) hr hgd rfl (da_dat (g.e_MOST_WORKS.elim fun _ h => d_gint rfl h) (da_dat (d_var (pv 0)) (da_nil)))))) ?_ ?_
    ·
      refine s_one ?_
      exact s_ret (d_bl)
    ·
      exact s_nil
  refine s_seq ?_ ?_
  ·
    exact s_set S.nd rfl (by first | exact Or.inl rfl | exact Or.inr rfl) (r_dat (d_call (c_works_in.mono (by decide)) hr hgd rfl (da_dat (d_var (pv 0)) (da_nil))))
  refine s_one ?_
  exact s_ret (d_cmp (op_eqA hr.units) ok_eq (d_new (n_sortedA (b := false) (c := true) hr.units rfl g.b_sorted (l_dat (d_var (pv 1))))) (d_new (n_rg1 rfl rfl g.b_list rfl g.b_range (d_len (b := false) (c := true) rfl g.b_len (l_dat (d_var (pv 1)))))) (nomark _))
def b_pairs_in (self : Fs) : Ss := sSeq (sIf (tD (cBin opEq (cBin opIx (cV 0) (cK (.int 0))) (cK (.str "work")))) (sRet (cN (nLst (dNil)))) (sNext)) (sSeq (sSet 1 (rN (nLst (dNil)))) (sSeq (sFor (iEnum (lD (cBin opIx (cV 0) (cK (.int 1))))) (gTup [gN 2, gN 3]) (sSeq (sExt 1 (cCall 1 self (aD (cV 3) (aNil)))) (sFor (lD (cIf (tD (cBin opEq (cBin opIx (cV 0) (cK (.int 0))) (cK (.str "behind")))) (cSl (cBin opIx (cV 0) (cK (.int 1))) (oSome (cBin opAdd (cV 2) (cK (.int 1)))) (oNone)) (cTup (dNil)))) (gN 4) (sFor (lD (cCall 1 (s_works_in 24) (aD (cV 3) (aNil)))) (gN 5) (sExt 1 (cN (nLc (lD (cCall 1 (s_works_in 24) (aD (cV 4) (aNil)))) (gN 6) (tYes) (cTup (dCons (cV 5) (dCons (cV 6) (dNil)))) (([("other", 6)] : List (Str × Nat)).map (·.2))))))))) (sRet (cFzA 1))))
def s_pairs_in : Nat → Fs
  | 0 => fun _ => .stuck
  | n + 1 => bodyOf (b_pairs_in (s_pairs_in n)) 6 false
theorem sc_pairs_in : FnScope ["node", "found", "at", "part", "late", "one", "other"] ["node"] (defScope (top 38)) := ⟨rfl, rfl, rfl, by decide +kernel, rfl, by decide +kernel, by decide +kernel⟩
theorem c_pairs_in (g : G mg) (D : Df K mg "pairs_in" (top 38)) (c_works_in : CalM P w K mg base 25 "works_in" (spM K mg 1 (s_works_in 24))) : ∀ n : Nat, CalM P w K mg base (25 + n) "pairs_in" (spM K mg 1 (s_pairs_in n))
  | 0 => cal_zero (n := 1) (ps := ["node"]) D rfl (fun _ _ _ _ _ _ us hl => match us, hl with | [_], _ => rfl)
  | n + 1 => by
    have ih := c_pairs_in g D c_works_in n
    have S := sc_pairs_in
    have KK : ∀ {j : Nat}, j ≤ 25 → j ≤ 25 + n := fun h => Nat.le_trans h (Nat.le_add_right _ _)
    refine cal_def (n := 1) (m := 6) (ts := [] ++ ([]) ++ ([1] ++ (([2] ++ ([3] ++ ([]))) ++ ([] ++ ([4] ++ ([5] ++ ([])))) ++ ([])))) (N := ["node", "found", "at", "part", "late", "one", "other"]) (ps := ["node"]) (b := b_pairs_in (s_pairs_in n)) D S rfl rfl (fun _ _ _ _ _ _ us hl => match us, hl with | [_], _ => rfl) fun f cdv A outer s H E hr hgd => ?_
    refine s_seq ?_ ?_
    ·
      refine s_if (dt_cmp (op_eqA hr.units) ok_eq (d_ix (d_var (pv 0)) (d_int) (fun _ _ => rfl)) (g.e_WORK.elim fun _ h => d_gstr rfl h) (nomark _)) ?_ ?_
      ·
        refine s_one ?_
        exact s_ret (d_new (n_lst (dd_nil)))
      ·
        exact s_nil
    refine s_seq ?_ ?_
    ·
      exact s_set S.nd rfl (by first | exact Or.inl rfl | exact Or.inr rfl) (r_new (n_lst (dd_nil)))
    refine s_seq ?_ ?_
    ·
      refine s_for (passes_of rfl) rfl (i_enum rfl g.b_enumerate (l_dat (d_ix (d_var (pv 0)) (d_int) (fun _ _ => rfl)))) (g_tup rfl (gs_cons (g_name (pg_name S.nd rfl (by first | exact Or.inl rfl | exact Or.inr rfl))) (gs_cons (g_name (pg_name S.nd rfl (by first | exact Or.inl rfl | exact Or.inr rfl))) (gs_nil)))) ?_
      ·
        refine s_seq ?_ ?_
        ·
          exact s_ext (pv 1) (d_call ih hr hgd rfl (da_dat (d_var (pv 3)) (da_nil))) rfl rfl rfl rfl rfl rfl
        refine s_one ?_
        refine s_for (passes_of rfl) rfl (i_seq (l_dat (d_if (dt_cmp (op_eqA hr.units) ok_eq (d_ix (d_var (pv 0)) (d_int) (fun _ _ => rfl)) (g.e_BEHIND.elim fun _ h => d_gstr rfl h) (nomark _)) (d_sl (d_ix (d_var (pv 0)) (d_int) (fun _ _ => rfl)) (o_some (d_bin op_addA ok_add (d_var (pv 2)) (d_int))) o_none) (d_tup (dd_nil))))) (g_name (pg_name S.nd rfl (by first | exact Or.inl rfl | exact Or.inr rfl))) ?_
        ·
          refine s_one ?_
          refine s_for (passes_of rfl) rfl (i_seq (l_dat (d_call (c_works_in.mono (KK (by decide))) hr hgd rfl (da_dat (d_var (pv 3)) (da_nil))))) (g_name (pg_name S.nd rfl (by first | exact Or.inl rfl | exact Or.inr rfl))) ?_
          ·
            refine s_one ?_
            exact s_ext (pv 1) (d_new (n_lc rfl S.nd (own := [("other", 6)]) (ts := [6]) (i_seq (l_dat (d_call (c_works_in.mono (KK (by decide))) hr hgd rfl (da_dat (d_var (pv 4)) (da_nil))))) (blk_of (by kernel_rfl)) (by decide) (fun _ _ _ _ _ => g_name (pg_name S.nd rfl (by first | exact Or.inl rfl | exact Or.inr rfl))) (fun _ _ _ _ _ => wf_nil rfl rfl) (fun _ _ _ _ _ => d_tup (dd_cons (d_var (pv 5)) (dd_cons (d_var (pv 6)) (dd_nil)))))) rfl rfl rfl rfl rfl rfl
    refine s_one ?_
    exact s_ret (d_fzA (pv 1))
def b_order_by_node : Ss := sRet (cTup (dCons (cK (.str "order")) (dCons (cLen (lD (cCall 1 (s_works_in 24) (aD (cV 0) (aNil))))) (dCons (cTuple (nSorted (lD (cCall 1 (s_pairs_in 24) (aD (cV 0) (aNil)))))) (dNil)))))
def s_order_by_node : Fs := bodyOf b_order_by_node 0 false
theorem sc_order_by_node : FnScope ["node"] ["node"] (defScope (top 39)) := ⟨rfl, rfl, rfl, by decide +kernel, rfl, by decide +kernel, by decide +kernel⟩
theorem c_order_by_node (g : G mg) (D : Df K mg "order_by_node" (top 39)) (c_works_in : CalM P w K mg base 25 "works_in" (spM K mg 1 (s_works_in 24))) (c_pairs_in : CalM P w K mg base 49 "pairs_in" (spM K mg 1 (s_pairs_in 24))) : CalM P w K mg base 50 "order_by_node" (spM K mg 1 s_order_by_node) := by
  have S := sc_order_by_node
  refine cal_def (k := 49) (n := 1) (m := 0) (ts := []) (N := ["node"]) (ps := ["node"]) (b := b_order_by_node) D S rfl rfl (fun _ _ _ _ _ _ us hl => match us, hl with | [_], _ => rfl) fun f cdv A outer s H E hr hgd => ?_
  refine s_one ?_
  exact s_ret (d_tup (dd_cons (g.e_ORDER.elim fun _ h => d_gstr rfl h) (dd_cons (d_len (b := false) (c := true) rfl g.b_len (l_dat (d_call (c_works_in.mono (by decide)) hr hgd rfl (da_dat (d_var (pv 0)) (da_nil))))) (dd_cons (d_tuple (b := false) (c := true) rfl g.b_tuple (l_new (n_sortedA (b := false) (c := true) hr.units rfl g.b_sorted (l_dat (d_call (c_pairs_in.mono (by decide)) hr hgd rfl (da_dat (d_var (pv 0)) (da_nil))))))) (dd_nil)))))
def b_is_making_of : Ss := sRet (cAnd (cCall 1 s_is_any_making (aD (cV 1) (aNil))) (cBin opEq (cCall 1 s_order_by_node (aD (cV 1) (aNil))) (cV 0)))
def s_is_making_of : Fs := bodyOf b_is_making_of 0 false
theorem sc_is_making_of : FnScope ["order", "value"] ["order", "value"] (defScope (top 40)) := ⟨rfl, rfl, rfl, by decide +kernel, rfl, by decide +kernel, by decide +kernel⟩
theorem c_is_making_of (g : G mg) (D : Df K mg "is_making_of" (top 40)) (c_is_any_making : CalM P w K mg base 51 "is_any_making" (spM K mg 1 s_is_any_making)) (c_order_by_node : CalM P w K mg base 50 "order_by_node" (spM K mg 1 s_order_by_node)) : CalM P w K mg base 52 "is_making_of" (spM K mg 2 s_is_making_of) := by
  have S := sc_is_making_of
  refine cal_def (k := 51) (n := 2) (m := 0) (ts := []) (N := ["order", "value"]) (ps := ["order", "value"]) (b := b_is_making_of) D S rfl rfl (fun _ _ _ _ _ _ us hl => match us, hl with | [_, _], _ => rfl) fun f cdv A outer s H E hr hgd => ?_
  refine s_one ?_
  exact s_ret (d_and (d_call (c_is_any_making.mono (by decide)) hr hgd rfl (da_dat (d_var (pv 1)) (da_nil))) (d_one (d_cmp (op_eqA hr.units) ok_eq (d_call (c_order_by_node.mono (by decide)) hr hgd rfl (da_dat (d_var (pv 1)) (da_nil))) (d_var (pv 0)) (nomark _))))
def fnT (y : Str) : Option Fs := if y = "are_paired" then some s_are_paired else if y = "are_free_of" then some s_are_free_of else none
def b_lots_of : Ss := sSeq (sPar 3 4 (rD (cN (nList (lD (cV 1))))) (rN (nLst (dNil)))) (sSeq (sWhile 4000 (tD (cBin opNe (cV 3) (cN (nLst (dNil))))) (sSeq (sPar 5 6 (rN (nLst (dCons (cBin opIx (cV 3) (cK (.int 0))) (dNil)))) (rD (cK (.int 0)))) (sSeq (sWhile 4000 (tD (cBin opLt (cV 6) (cLen (lV 5)))) (sSeq (sExt 5 (cN (nLc (lD (cV 3)) (gN 7) (tAnd (tD (cIn true (cV 7) (lV 5))) (tD (cCallV 3 2 fnT (aD (cV 0) (aD (cIxO 5 (cV 6)) (aD (cV 7) (aNil))))))) (cV 7) (([("late", 7)] : List (Str × Nat)).map (·.2))))) (sAugI 6 false (cK (.int 1))))) (sSeq (sApp 4 (cN (nSorted (lV 5)))) (sSet 3 (rD (cN (nLc (lD (cV 3)) (gN 8) (tD (cIn true (cV 8) (lV 5))) (cV 8) (([("work", 8)] : List (Str × Nat)).map (·.2)))))))))) (sRet (cFzA 4)))
def s_lots_of : Fs := bodyOf b_lots_of 6 false
theorem sc_lots_of : FnScope ["order", "works", "are_tied", "left", "found", "some", "turn", "late", "work"] ["order", "works", "are_tied"] (defScope (top 41)) := ⟨rfl, rfl, rfl, by decide +kernel, rfl, by decide +kernel, by decide +kernel⟩
theorem c_lots_of (g : G mg) (D : Df K mg "lots_of" (top 41)) (c_fnT : ∀ y f, fnT y = some f → CalM P w K mg base 4 y (spM K mg 3 f)) : CalM P w K mg base 5 "lots_of" (spM K mg 3 s_lots_of) := by
  have S := sc_lots_of
  refine cal_def (k := 4) (n := 3) (m := 6) (ts := [3, 4] ++ ([5, 6] ++ ([] ++ ([6]) ++ ([] ++ ([3]))) ++ ([]))) (N := ["order", "works", "are_tied", "left", "found", "some", "turn", "late", "work"]) (ps := ["order", "works", "are_tied"]) (b := b_lots_of) D S rfl rfl (fun _ _ _ _ _ _ us hl => match us, hl with | [_, _, _], _ => rfl) fun f cdv A outer s H E hr hgd => ?_
  refine s_seq ?_ ?_
  ·
    first
      | exact s_par rfl S.nd rfl rfl (by decide) (Or.inl rfl) rfl rfl (r_dat (d_new (n_list (b := false) (c := true) rfl g.b_list (l_dat (d_var (pv 1)))))) (r_new (n_lst (dd_nil))) rfl
      | exact s_parC rfl S.nd rfl rfl (by first | exact Or.inl rfl | exact Or.inr rfl) (by first | exact Or.inl rfl | exact Or.inr rfl) (r_dat (d_new (n_list (b := false) (c := true) rfl g.b_list (l_dat (d_var (pv 1)))))) (r_new (n_lst (dd_nil))) rfl rfl
  refine s_seq ?_ ?_
  ·
    refine s_while (passes_of rfl) (dt_cmp (op_neA hr.units) ok_ne (d_var (pv 3)) (d_new (n_lst (dd_nil))) (nomark _)) ?_
    ·
      refine s_seq ?_ ?_
      ·
        first
          | exact s_par rfl S.nd rfl rfl (by decide) (Or.inl rfl) rfl rfl (r_new (n_lst (dd_cons (d_ix (d_var (pv 3)) (d_int) (fun _ _ => rfl)) (dd_nil)))) (r_dat (d_int)) rfl
          | exact s_parC rfl S.nd rfl rfl (by first | exact Or.inl rfl | exact Or.inr rfl) (by first | exact Or.inl rfl | exact Or.inr rfl) (r_new (n_lst (dd_cons (d_ix (d_var (pv 3)) (d_int) (fun _ _ => rfl)) (dd_nil)))) (r_dat (d_int)) rfl rfl
      refine s_seq ?_ ?_
      ·
        refine s_while (passes_of rfl) (dt_cmp (op_ltA hr.units) ok_lt (d_var (pv 6)) (d_len (b := false) (c := true) rfl g.b_len (l_own (pv 5))) (nomark _)) ?_
        ·
          refine s_seq ?_ ?_
          ·
            exact s_ext (pv 5) (d_new (n_lc rfl S.nd (own := [("late", 7)]) (ts := [7]) (i_seq (l_dat (d_var (pv 3)))) (blk_of (by kernel_rfl)) (by decide) (fun _ _ _ _ _ => g_name (pg_name S.nd rfl (by first | exact Or.inl rfl | exact Or.inr rfl))) (fun _ _ _ _ _ => wf_one (dt_bool (dw_and (dt_notIn (b := false) (c := true) hr.units (d_var (pv 7)) (l_own (pv 5)) rfl) (dw_and1 (dt_val (d_callV c_fnT hr hgd rfl (by first | exact Or.inl rfl | exact Or.inr (Or.inl rfl) | exact Or.inr (Or.inr rfl)) (da_dat (d_var (pv 0)) (da_dat (d_ixO (pv 5) (d_var (pv 6)) (fun _ _ => rfl)) (da_dat (d_var (pv 7)) (da_nil)))))))))) (fun _ _ _ _ _ => d_var (pv 7)))) rfl rfl rfl rfl rfl rfl
          refine s_one ?_
          exact s_augI S.nd rfl (by first | exact Or.inl rfl | exact Or.inr rfl) (d_int)
      refine s_seq ?_ ?_
      ·
        exact s_app (pv 4) (d_new (n_sortedA (b := false) (c := true) hr.units rfl g.b_sorted (l_own (pv 5)))) rfl rfl rfl rfl rfl rfl
      refine s_one ?_
      first
        | exact s_setLcD rfl S.nd rfl rfl (sw_true rfl rfl rfl rfl) (own := [("work", 8)]) (ts := [8]) (i_seq (l_dat (d_var (pv 3)))) (blk_of (by kernel_rfl)) (by decide) (fun _ _ _ _ _ => g_name (pg_name S.nd rfl (by first | exact Or.inl rfl | exact Or.inr rfl))) (fun _ _ _ _ _ => wf_one (dt_notIn (b := false) (c := true) hr.units (d_var (pv 8)) (l_own (pv 5)) rfl)) (fun _ _ _ _ _ => d_var (pv 8)) (fun _ => rfl)
        | exact s_set S.nd rfl (by first | exact Or.inl rfl | exact Or.inr rfl) (r_dat (d_new (n_lc rfl S.nd (own := [("work", 8)]) (ts := [8]) (i_seq (l_dat (d_var (pv 3)))) (blk_of (by kernel_rfl)) (by decide) (fun _ _ _ _ _ => g_name (pg_name S.nd rfl (by first | exact Or.inl rfl | exact Or.inr rfl))) (fun _ _ _ _ _ => wf_one (dt_notIn (b := false) (c := true) hr.units (d_var (pv 8)) (l_own (pv 5)) rfl)) (fun _ _ _ _ _ => d_var (pv 8)))))
  refine s_one ?_
  exact s_ret (d_fzA (pv 4))
def b_by_size_behind : Ss := sSeq (sSet 2 (rD (cN (nLc (lD (cV 1)) (gN 4) (tYes) (cTup (dCons (cLen (nLc (lD (cV 1)) (gN 3) (tD (cCall 3 s_is_ahead_of (aD (cV 0) (aD (cBin opIx (cV 3) (cK (.int 0))) (aD (cBin opIx (cV 4) (cK (.int 0))) (aNil)))))) (cV 3) (([("other", 3)] : List (Str × Nat)).map (·.2)))) (dCons (cV 4) (dNil)))) (([("lot", 4)] : List (Str × Nat)).map (·.2)))))) (sRet (cN (nLc (nSorted (lD (cV 2))) (gTup [gN 5, gN 4]) (tYes) (cV 4) (([("many", 5), ("lot", 4)] : List (Str × Nat)).map (·.2)))))
def s_by_size_behind : Fs := bodyOf b_by_size_behind 4 false
theorem sc_by_size_behind : FnScope ["order", "lots", "keyed", "other", "lot", "many"] ["order", "lots"] (defScope (top 43)) := ⟨rfl, rfl, rfl, by decide +kernel, rfl, by decide +kernel, by decide +kernel⟩
theorem c_by_size_behind (g : G mg) (D : Df K mg "by_size_behind" (top 43)) (c_is_ahead_of : CalM P w K mg base 2 "is_ahead_of" (spM K mg 3 s_is_ahead_of)) : CalM P w K mg base 3 "by_size_behind" (spM K mg 2 s_by_size_behind) := by
  have S := sc_by_size_behind
  refine cal_def (k := 2) (n := 2) (m := 4) (ts := [2] ++ ([])) (N := ["order", "lots", "keyed", "other", "lot", "many"]) (ps := ["order", "lots"]) (b := b_by_size_behind) D S rfl rfl (fun _ _ _ _ _ _ us hl => match us, hl with | [_, _], _ => rfl) fun f cdv A outer s H E hr hgd => ?_
  refine s_seq ?_ ?_
  ·
    first
      | exact s_setLcD rfl S.nd rfl rfl (sw_true rfl rfl rfl rfl) (own := [("lot", 4)]) (ts := [4]) (i_seq (l_dat (d_var (pv 1)))) (blk_of (by kernel_rfl)) (by decide) (fun _ _ _ _ _ => g_name (pg_name S.nd rfl (by first | exact Or.inl rfl | exact Or.inr rfl))) (fun _ _ _ _ _ => wf_nil rfl rfl) (fun _ _ _ _ _ => d_tup (dd_cons (d_len (b := false) (c := true) rfl g.b_len (l_new (n_lc rfl S.nd (own := [("other", 3)]) (ts := [3]) (i_seq (l_dat (d_var (pv 1)))) (blk_of (by kernel_rfl)) (by decide) (fun _ _ _ _ _ => g_name (pg_name S.nd rfl (by first | exact Or.inl rfl | exact Or.inr rfl))) (fun _ _ _ _ _ => wf_one (dt_val (d_call (c_is_ahead_of.mono (by decide)) hr hgd rfl (da_dat (d_var (pv 0)) (da_dat (d_ix (d_var (pv 3)) (d_int) (fun _ _ => rfl)) (da_dat (d_ix (d_var (pv 4)) (d_int) (fun _ _ => rfl)) (da_nil))))))) (fun _ _ _ _ _ => d_var (pv 3))))) (dd_cons (d_var (pv 4)) (dd_nil)))) (fun _ => rfl)
      | exact s_set S.nd rfl (by first | exact Or.inl rfl | exact Or.inr rfl) (r_dat (d_new (n_lc rfl S.nd (own := [("lot", 4)]) (ts := [4]) (i_seq (l_dat (d_var (pv 1)))) (blk_of (by kernel_rfl)) (by decide) (fun _ _ _ _ _ => g_name (pg_name S.nd rfl (by first | exact Or.inl rfl | exact Or.inr rfl))) (fun _ _ _ _ _ => wf_nil rfl rfl) (fun _ _ _ _ _ => d_tup (dd_cons (d_len (b := false) (c := true) rfl g.b_len (l_new (n_lc rfl S.nd (own := [("other", 3)]) (ts := [3]) (i_seq (l_dat (d_var (pv 1)))) (blk_of (by kernel_rfl)) (by decide) (fun _ _ _ _ _ => g_name (pg_name S.nd rfl (by first | exact Or.inl rfl | exact Or.inr rfl))) (fun _ _ _ _ _ => wf_one (dt_val (d_call (c_is_ahead_of.mono (by decide)) hr hgd rfl (da_dat (d_var (pv 0)) (da_dat (d_ix (d_var (pv 3)) (d_int) (fun _ _ => rfl)) (da_dat (d_ix (d_var (pv 4)) (d_int) (fun _ _ => rfl)) (da_nil))))))) (fun _ _ _ _ _ => d_var (pv 3))))) (dd_cons (d_var (pv 4)) (dd_nil)))))))
  refine s_one ?_
  exact s_ret (d_new (n_lc rfl S.nd (own := [("many", 5), ("lot", 4)]) (ts := [5] ++ ([4] ++ ([]))) (i_seq (l_new (n_sortedA (b := false) (c := true) hr.units rfl g.b_sorted (l_dat (d_var (pv 2)))))) (blk_of (by kernel_rfl)) (by decide) (fun _ _ _ _ _ => g_tup rfl (gs_cons (g_name (pg_name S.nd rfl (by first | exact Or.inl rfl | exact Or.inr rfl))) (gs_cons (g_name (pg_name S.nd rfl (by first | exact Or.inl rfl | exact Or.inr rfl))) (gs_nil)))) (fun _ _ _ _ _ => wf_nil rfl rfl) (fun _ _ _ _ _ => d_var (pv 4))))
def b_node_of (self : Fs) : Ss := sSeq (sIf (tD (cBin opEq (cLen (lD (cV 1))) (cK (.int 1)))) (sRet (cTup (dCons (cK (.str "work")) (dCons (cBin opIx (cV 1) (cK (.int 0))) (dNil))))) (sNext)) (sSeq (sPar 2 3 (rD (cCall 3 s_lots_of (aD (cV 0) (aD (cV 1) (aF "are_paired" (aNil)))))) (rD (cK (.str "beside")))) (sSeq (sIf (tD (cBin opEq (cLen (lD (cV 2))) (cK (.int 1)))) (sPar 2 3 (rD (cCall 2 s_by_size_behind (aD (cV 0) (aD (cCall 3 s_lots_of (aD (cV 0) (aD (cV 1) (aF "are_free_of" (aNil))))) (aNil))))) (rD (cK (.str "behind")))) (sNext)) (sSeq (sIf (tD (cBin opEq (cLen (lD (cV 2))) (cK (.int 1)))) (sRet (cK .none)) (sNext)) (sSeq (sSet 4 (rD (cN (nLc (lD (cV 2)) (gN 5) (tYes) (cCall 2 self (aD (cV 0) (aD (cV 5) (aNil)))) (([("lot", 5)] : List (Str × Nat)).map (·.2)))))) (sRet (cIf (tD (cAny (nLc (lD (cV 4)) (gN 6) (tYes) (cUn (opIsN false) (cV 6)) (([("part", 6)] : List (Str × Nat)).map (·.2))))) (cK .none) (cTup (dCons (cV 3) (dCons (cTuple (lD (cV 4))) (dNil))))))))))
def s_node_of : Nat → Fs
  | 0 => fun _ => .stuck
  | n + 1 => bodyOf (b_node_of (s_node_of n)) 5 false
theorem sc_node_of : FnScope ["order", "works", "lots", "word", "parts", "lot", "part"] ["order", "works"] (defScope (top 44)) := ⟨rfl, rfl, rfl, by decide +kernel, rfl, by decide +kernel, by decide +kernel⟩
theorem c_node_of (g : G mg) (D : Df K mg "node_of" (top 44)) (c_are_paired : CalM P w K mg base 4 "are_paired" (spM K mg 3 s_are_paired)) (c_lots_of : CalM P w K mg base 5 "lots_of" (spM K mg 3 s_lots_of)) (c_are_free_of : CalM P w K mg base 3 "are_free_of" (spM K mg 3 s_are_free_of)) (c_by_size_behind : CalM P w K mg base 3 "by_size_behind" (spM K mg 2 s_by_size_behind)) : ∀ n : Nat, CalM P w K mg base (5 + n) "node_of" (spM K mg 2 (s_node_of n))
  | 0 => cal_zero (n := 2) (ps := ["order", "works"]) D rfl (fun _ _ _ _ _ _ us hl => match us, hl with | [_, _], _ => rfl)
  | n + 1 => by
    obtain ⟨_, _, _, _, h_are_paired, _, _⟩ := c_are_paired.ex
    obtain ⟨_, _, _, _, h_are_free_of, _, _⟩ := c_are_free_of.ex
    have ih := c_node_of g D c_are_paired c_lots_of c_are_free_of c_by_size_behind n
    have S := sc_node_of
    have KK : ∀ {j : Nat}, j ≤ 5 → j ≤ 5 + n := fun h => Nat.le_trans h (Nat.le_add_right _ _)
    refine cal_def (n := 2) (m := 5) (ts := [] ++ ([]) ++ ([2, 3] ++ ([2, 3] ++ ([]) ++ ([] ++ ([]) ++ ([4] ++ ([])))))) (N := ["order", "works", "lots", "word", "parts", "lot", "part"]) (ps := ["order", "works"]) (b := b_node_of (s_node_of n)) D S rfl rfl (fun _ _ _ _ _ _ us hl => match us, hl with | [_, _], _ => rfl) fun f cdv A outer s H E hr hgd => ?_
    refine s_seq ?_ ?_
    ·
      refine s_if (dt_cmp (op_eqA hr.units) ok_eq (d_len (b := false) (c := true) rfl g.b_len (l_dat (d_var (pv 1)))) (d_int) (nomark _)) ?_ ?_
      ·
        refine s_one ?_
        exact s_ret (d_tup (dd_cons (g.e_WORK.elim fun _ h => d_gstr rfl h) (dd_cons (d_ix (d_var (pv 1)) (d_int) (fun _ _ => rfl)) (dd_nil))))
      ·
        exact s_nil
    refine s_seq ?_ ?_
    ·
      first
        | exact s_par rfl S.nd rfl rfl (by decide) (Or.inl rfl) rfl rfl (r_dat (d_call (c_lots_of.mono (KK (by decide))) hr hgd rfl (da_dat (d_var (pv 0)) (da_dat (d_var (pv 1)) (da_fn rfl h_are_paired (da_nil)))))) (r_dat (g.e_BESIDE.elim fun _ h => d_gstr rfl h)) rfl
        | exact s_parC rfl S.nd rfl rfl (by first | exact Or.inl rfl | exact Or.inr rfl) (by first | exact Or.inl rfl | exact Or.inr rfl) (r_dat (d_call (c_lots_of.mono (KK (by decide))) hr hgd rfl (da_dat (d_var (pv 0)) (da_dat (d_var (pv 1)) (da_fn rfl h_are_paired (da_nil)))))) (r_dat (g.e_BESIDE.elim fun _ h => d_gstr rfl h)) rfl rfl
    refine s_seq ?_ ?_
    ·
      refine s_if (dt_cmp (op_eqA hr.units) ok_eq (d_len (b := false) (c := true) rfl g.b_len (l_dat (d_var (pv 2)))) (d_int) (nomark _)) ?_ ?_
      ·
        refine s_one ?_
        first
          | exact s_par rfl S.nd rfl rfl (by decide) (Or.inl rfl) rfl rfl (r_dat (d_call (c_by_size_behind.mono (KK (by decide))) hr hgd rfl (da_dat (d_var (pv 0)) (da_dat (d_call (c_lots_of.mono (KK (by decide))) hr hgd rfl (da_dat (d_var (pv 0)) (da_dat (d_var (pv 1)) (da_fn rfl h_are_free_of (da_nil))))) (da_nil))))) (r_dat (g.e_BEHIND.elim fun _ h => d_gstr rfl h)) rfl
          | exact s_parC rfl S.nd rfl rfl (by first | exact Or.inl rfl | exact Or.inr rfl) (by first | exact Or.inl rfl | exact Or.inr rfl) (r_dat (d_call (c_by_size_behind.mono (KK (by decide))) hr hgd rfl (da_dat (d_var (pv 0)) (da_dat (d_call (c_lots_of.mono (KK (by decide))) hr hgd rfl (da_dat (d_var (pv 0)) (da_dat (d_var (pv 1)) (da_fn rfl h_are_free_of (da_nil))))) (da_nil))))) (r_dat (g.e_BEHIND.elim fun _ h => d_gstr rfl h)) rfl rfl
      ·
        exact s_nil
    refine s_seq ?_ ?_
    ·
      refine s_if (dt_cmp (op_eqA hr.units) ok_eq (d_len (b := false) (c := true) rfl g.b_len (l_dat (d_var (pv 2)))) (d_int) (nomark _)) ?_ ?_
      ·
        refine s_one ?_
        exact s_ret (d_non)
      ·
        exact s_nil
    refine s_seq ?_ ?_
    ·
      first
        | exact s_setLcD rfl S.nd rfl rfl (sw_true rfl rfl rfl rfl) (own := [("lot", 5)]) (ts := [5]) (i_seq (l_dat (d_var (pv 2)))) (blk_of (by kernel_rfl)) (by decide) (fun _ _ _ _ _ => g_name (pg_name S.nd rfl (by first | exact Or.inl rfl | exact Or.inr rfl))) (fun _ _ _ _ _ => wf_nil rfl rfl) (fun _ _ _ _ _ => d_call ih hr hgd rfl (da_dat (d_var (pv 0)) (da_dat (d_var (pv 5)) (da_nil)))) (fun _ => rfl)
        | exact s_set S.nd rfl (by first | exact Or.inl rfl | exact Or.inr rfl) (r_dat (d_new (n_lc rfl S.nd (own := [("lot", 5)]) (ts := [5]) (i_seq (l_dat (d_var (pv 2)))) (blk_of (by kernel_rfl)) (by decide) (fun _ _ _ _ _ => g_name (pg_name S.nd rfl (by first | exact Or.inl rfl | exact Or.inr rfl))) (fun _ _ _ _ _ => wf_nil rfl rfl) (fun _ _ _ _ _ => d_call ih hr hgd rfl (da_dat (d_var (pv 0)) (da_dat (d_var (pv 5)) (da_nil)))))))
    refine s_one ?_
    exact s_ret (d_if (dt_val (d_any (b := false) rfl rfl g.b_any (l_new (n_lc rfl S.nd (own := [("part", 6)]) (ts := [6]) (i_seq (l_dat (d_var (pv 4)))) (blk_of (by kernel_rfl)) (by decide) (fun _ _ _ _ _ => g_name (pg_name S.nd rfl (by first | exact Or.inl rfl | exact Or.inr rfl))) (fun _ _ _ _ _ => wf_nil rfl rfl) (fun _ _ _ _ _ => d_isN (d_var (pv 6))))))) (d_non) (d_tup (dd_cons (d_var (pv 3)) (dd_cons (d_tuple (b := false) (c := true) rfl g.b_tuple (l_dat (d_var (pv 4)))) (dd_nil)))))
def b_making_of : Ss := sRet (cCall 2 (s_node_of 24) (aD (cV 0) (aD (cN (nRg1 (cCall 1 s_works_of (aD (cV 0) (aNil))))) (aNil))))
def s_making_of : Fs := bodyOf b_making_of 0 false
theorem sc_making_of : FnScope ["order"] ["order"] (defScope (top 45)) := ⟨rfl, rfl, rfl, by decide +kernel, rfl, by decide +kernel, by decide +kernel⟩
theorem c_making_of (g : G mg) (D : Df K mg "making_of" (top 45)) (c_works_of : CalM P w K mg base 2 "works_of" (spM K mg 1 s_works_of)) (c_node_of : CalM P w K mg base 29 "node_of" (spM K mg 2 (s_node_of 24))) : CalM P w K mg base 30 "making_of" (spM K mg 1 s_making_of) := by
  have S := sc_making_of
  refine cal_def (k := 29) (n := 1) (m := 0) (ts := []) (N := ["order"]) (ps := ["order"]) (b := b_making_of) D S rfl rfl (fun _ _ _ _ _ _ us hl => match us, hl with | [_], _ => rfl) fun f cdv A outer s H E hr hgd => ?_
  refine s_one ?_
  exact s_ret (d_call (c_node_of.mono (by decide)) hr hgd rfl (da_dat (d_var (pv 0)) (da_dat (d_new (n_rg1 rfl rfl g.b_list rfl g.b_range (d_call (c_works_of.mono (by decide)) hr hgd rfl (da_dat (d_var (pv 0)) (da_nil))))) (da_nil))))
def b_paper_of : Ss := sSeq (sSet 1 (rD (cCall 1 s_making_of (aD (cV 0) (aNil))))) (sRet (cIf (tD (cUn (opIsN false) (cV 1))) (cTup (dCons (cK (.str "n")) (dCons (cBin opIx (cCall 1 s_ns_of (aD (cV 0) (aNil))) (cK (.int 0))) (dNil)))) (cTup (dCons (cK (.str "made")) (dCons (cV 1) (dNil))))))
def s_paper_of : Fs := bodyOf b_paper_of 1 false
theorem sc_paper_of : FnScope ["order", "found"] ["order"] (defScope (top 46)) := ⟨rfl, rfl, rfl, by decide +kernel, rfl, by decide +kernel, by decide +kernel⟩
theorem c_paper_of (g : G mg) (D : Df K mg "paper_of" (top 46)) (c_making_of : CalM P w K mg base 30 "making_of" (spM K mg 1 s_making_of)) (c_ns_of : CalM P w K mg base 3 "ns_of" (spM K mg 1 s_ns_of)) : CalM P w K mg base 31 "paper_of" (spM K mg 1 s_paper_of) := by
  have S := sc_paper_of
  refine cal_def (k := 30) (n := 1) (m := 1) (ts := [1] ++ ([])) (N := ["order", "found"]) (ps := ["order"]) (b := b_paper_of) D S rfl rfl (fun _ _ _ _ _ _ us hl => match us, hl with | [_], _ => rfl) fun f cdv A outer s H E hr hgd => ?_
  refine s_seq ?_ ?_
  ·
    exact s_set S.nd rfl (by first | exact Or.inl rfl | exact Or.inr rfl) (r_dat (d_call (c_making_of.mono (by decide)) hr hgd rfl (da_dat (d_var (pv 0)) (da_nil))))
  refine s_one ?_
  exact s_ret (d_if (dt_isN (d_var (pv 1))) (d_tup (dd_cons (g.e_EN.elim fun _ h => d_gstr rfl h) (dd_cons (d_ix (d_call (c_ns_of.mono (by decide)) hr hgd rfl (da_dat (d_var (pv 0)) (da_nil))) (d_int) (fun _ _ => rfl)) (dd_nil)))) (d_tup (dd_cons (g.e_MADE.elim fun _ h => d_gstr rfl h) (dd_cons (d_var (pv 1)) (dd_nil)))))
def b_is_paper_of : Ss := sSeq (sIf (tOr (tNot (tD (cCall 2 s_is_row (aD (cV 1) (aD (cK (.int 2)) (aNil)))))) (tNot (tD (cUn (opIsi [.str]) (cBin opIx (cV 1) (cK (.int 0))))))) (sRet (cK (.bool false))) (sNext)) (sSeq (sIf (tD (cBin opEq (cBin opIx (cV 1) (cK (.int 0))) (cK (.str "made")))) (sRet (cCall 2 s_is_making_of (aD (cV 0) (aD (cBin opIx (cV 1) (cK (.int 1))) (aNil))))) (sNext)) (sRet (cAnd (cBin opEq (cBin opIx (cV 1) (cK (.int 0))) (cK (.str "n"))) (cCall 2 s_is_n_of (aD (cV 0) (aD (cBin opIx (cV 1) (cK (.int 1))) (aNil)))))))
def s_is_paper_of : Fs := bodyOf b_is_paper_of 0 false
theorem sc_is_paper_of : FnScope ["order", "value"] ["order", "value"] (defScope (top 47)) := ⟨rfl, rfl, rfl, by decide +kernel, rfl, by decide +kernel, by decide +kernel⟩
theorem c_is_paper_of (g : G mg) (D : Df K mg "is_paper_of" (top 47)) (c_is_row : CalM P w K mg base 2 "is_row" (spM K mg 2 s_is_row)) (c_is_making_of : CalM P w K mg base 52 "is_making_of" (spM K mg 2 s_is_making_of)) (c_is_n_of : CalM P w K mg base 6 "is_n_of" (spM K mg 2 s_is_n_of)) : CalM P w K mg base 53 "is_paper_of" (spM K mg 2 s_is_paper_of) := by
  have S := sc_is_paper_of
  refine cal_def (k := 52) (n := 2) (m := 0) (ts := [] ++ ([]) ++ ([] ++ ([]) ++ ([]))) (N := ["order", "value"]) (ps := ["order", "value"]) (b := b_is_paper_of) D S rfl rfl (fun _ _ _ _ _ _ us hl => match us, hl with | [_, _], _ => rfl) fun f cdv A outer s H E hr hgd => ?_
  refine s_seq ?_ ?_
  ·
    refine s_if (dt_bool (dw_or (dt_not (dt_val (d_call (c_is_row.mono (by decide)) hr hgd rfl (da_dat (d_var (pv 1)) (da_dat (d_int) (da_nil)))))) (dw_or1 (dt_not (dt_val (d_isi .str rfl g.b_isinstance rfl g.b_str (by decide +kernel) (d_ix (d_var (pv 1)) (d_int) (fun _ _ => rfl)))))))) ?_ ?_
    ·
      refine s_one ?_
      exact s_ret (d_bl)
    ·
      exact s_nil
  refine s_seq ?_ ?_
  ·
    refine s_if (dt_cmp (op_eqA hr.units) ok_eq (d_ix (d_var (pv 1)) (d_int) (fun _ _ => rfl)) (g.e_MADE.elim fun _ h => d_gstr rfl h) (nomark _)) ?_ ?_
    ·
      refine s_one ?_
      exact s_ret (d_call (c_is_making_of.mono (by decide)) hr hgd rfl (da_dat (d_var (pv 0)) (da_dat (d_ix (d_var (pv 1)) (d_int) (fun _ _ => rfl)) (da_nil))))
    ·
      exact s_nil
  refine s_one ?_
  exact s_ret (d_and (d_cmp (op_eqA hr.units) ok_eq (d_ix (d_var (pv 1)) (d_int) (fun _ _ => rfl)) (g.e_EN.elim fun _ h => d_gstr rfl h) (nomark _)) (d_one (d_call (c_is_n_of.mono (by decide)) hr hgd rfl (da_dat (d_var (pv 0)) (da_dat (d_ix (d_var (pv 1)) (d_int) (fun _ _ => rfl)) (da_nil))))))
def b_is_n : Ss := sRet (cCall 2 s_is_n_of (aD (cCall 1 s_want_order (aD (cV 0) (aNil))) (aD (cV 1) (aNil))))
def s_is_n : Fs := bodyOf b_is_n 0 false
theorem sc_is_n : FnScope ["order", "value"] ["order", "value"] (defScope (top 48)) := ⟨rfl, rfl, rfl, by decide +kernel, rfl, by decide +kernel, by decide +kernel⟩
theorem c_is_n (g : G mg) (D : Df K mg "is_n" (top 48)) (c_want_order : CalM P w K mg base 7 "want_order" (spM K mg 1 s_want_order)) (c_is_n_of : CalM P w K mg base 6 "is_n_of" (spM K mg 2 s_is_n_of)) : CalM P w K mg base 8 "is_n" (spM K mg 2 s_is_n) := by
  have S := sc_is_n
  refine cal_def (k := 7) (n := 2) (m := 0) (ts := []) (N := ["order", "value"]) (ps := ["order", "value"]) (b := b_is_n) D S rfl rfl (fun _ _ _ _ _ _ us hl => match us, hl with | [_, _], _ => rfl) fun f cdv A outer s H E hr hgd => ?_
  refine s_one ?_
  exact s_ret (d_call (c_is_n_of.mono (by decide)) hr hgd rfl (da_dat (d_call (c_want_order.mono (by decide)) hr hgd rfl (da_dat (d_var (pv 0)) (da_nil))) (da_dat (d_var (pv 1)) (da_nil))))
def b_is_order_making : Ss := sRet (cCall 2 s_is_making_of (aD (cCall 1 s_want_order (aD (cV 0) (aNil))) (aD (cV 1) (aNil))))
def s_is_order_making : Fs := bodyOf b_is_order_making 0 false
theorem sc_is_order_making : FnScope ["order", "value"] ["order", "value"] (defScope (top 49)) := ⟨rfl, rfl, rfl, by decide +kernel, rfl, by decide +kernel, by decide +kernel⟩
theorem c_is_order_making (g : G mg) (D : Df K mg "is_order_making" (top 49)) (c_want_order : CalM P w K mg base 7 "want_order" (spM K mg 1 s_want_order)) (c_is_making_of : CalM P w K mg base 52 "is_making_of" (spM K mg 2 s_is_making_of)) : CalM P w K mg base 53 "is_order_making" (spM K mg 2 s_is_order_making) := by
  have S := sc_is_order_making
  refine cal_def (k := 52) (n := 2) (m := 0) (ts := []) (N := ["order", "value"]) (ps := ["order", "value"]) (b := b_is_order_making) D S rfl rfl (fun _ _ _ _ _ _ us hl => match us, hl with | [_, _], _ => rfl) fun f cdv A outer s H E hr hgd => ?_
  refine s_one ?_
  exact s_ret (d_call (c_is_making_of.mono (by decide)) hr hgd rfl (da_dat (d_call (c_want_order.mono (by decide)) hr hgd rfl (da_dat (d_var (pv 0)) (da_nil))) (da_dat (d_var (pv 1)) (da_nil))))
def b_ns : Ss := sRet (cCall 1 s_ns_of (aD (cCall 1 s_want_order (aD (cV 0) (aNil))) (aNil)))
def s_ns : Fs := bodyOf b_ns 0 false
theorem sc_ns : FnScope ["order"] ["order"] (defScope (top 50)) := ⟨rfl, rfl, rfl, by decide +kernel, rfl, by decide +kernel, by decide +kernel⟩
theorem c_ns (g : G mg) (D : Df K mg "ns" (top 50)) (c_want_order : CalM P w K mg base 7 "want_order" (spM K mg 1 s_want_order)) (c_ns_of : CalM P w K mg base 3 "ns_of" (spM K mg 1 s_ns_of)) : CalM P w K mg base 8 "ns" (spM K mg 1 s_ns) := by
  have S := sc_ns
  refine cal_def (k := 7) (n := 1) (m := 0) (ts := []) (N := ["order"]) (ps := ["order"]) (b := b_ns) D S rfl rfl (fun _ _ _ _ _ _ us hl => match us, hl with | [_], _ => rfl) fun f cdv A outer s H E hr hgd => ?_
  refine s_one ?_
  exact s_ret (d_call (c_ns_of.mono (by decide)) hr hgd rfl (da_dat (d_call (c_want_order.mono (by decide)) hr hgd rfl (da_dat (d_var (pv 0)) (da_nil))) (da_nil)))
theorem ck_ns (g : G mg) (D : Df K mg "ns" (top 50)) (c_want_order : CalM P w K mg base 7 "want_order" (spM K mg 1 s_want_order)) (c_ns_of : CalM P w K mg base 3 "ns_of" (spM K mg 1 s_ns_of)) : CalK P w K mg base 8 "ns" ["order"] false (spM K mg 1 s_ns) := by
  have S := sc_ns
  refine cal_defK (k := 7) (n := 1) (m := 0) (ts := []) (N := ["order"]) (ps := ["order"]) (ks := ["order"]) (rev := false) (b := b_ns) D S rfl rfl rfl (fun _ _ _ _ _ _ us hl => match us, hl with | [_], _ => rfl) fun f cdv A outer s H E hr hgd => ?_
  refine s_one ?_
  exact s_ret (d_call (c_ns_of.mono (by decide)) hr hgd rfl (da_dat (d_call (c_want_order.mono (by decide)) hr hgd rfl (da_dat (d_var (pv 0)) (da_nil))) (da_nil)))
def b_order_making : Ss := sSeq (sSet 1 (rD (cCall 1 (noX s_making_of) (aD (cCall 1 (noX s_want_order) (aD (cV 0) (aNil))) (aNil))))) (sSeq (sIf (tD (cUn (opIsN false) (cV 1))) (sRaise "NotMade" aNil) (sNext)) (sRet (cV 1)))
def s_order_making : Fs := bodyOf b_order_making 1 false
theorem sc_order_making : FnScope ["order", "found"] ["order"] (defScope (top 51)) := ⟨rfl, rfl, rfl, by decide +kernel, rfl, by decide +kernel, by decide +kernel⟩
theorem c_order_making (g : G mg) (D : Df K mg "order_making" (top 51)) (gx : GX K mg) (c_want_order : CalM P w K mg base 7 "want_order" (spM K mg 1 s_want_order)) (c_making_of : CalM P w K mg base 30 "making_of" (spM K mg 1 s_making_of)) : CalE P w K mg base 31 "order_making" (spX K mg 1 s_order_making) := by
  have S := sc_order_making
  refine cal_defE (k := 30) (n := 1) (m := 1) (ts := [1] ++ ([] ++ ([]) ++ ([]))) (N := ["order", "found"]) (ps := ["order"]) (b := b_order_making) D S rfl rfl (fun _ _ _ _ _ _ us hl => match us, hl with | [_], _ => rfl) fun f cdv A outer s H E hr hgd => ?_
  refine s_seq ?_ ?_
  ·
    exact s_set S.nd rfl (by first | exact Or.inl rfl | exact Or.inr rfl) (r_dat (d_callW (c_making_of.mono (by decide)) hr hgd rfl (da_dat (d_callW (c_want_order.mono (by decide)) hr hgd rfl (da_dat (d_var (pv 0)) (da_nil))) (da_nil))))
  refine s_seq ?_ ?_
  ·
    refine s_if (dt_isN (d_var (pv 1))) ?_ ?_
    ·
      refine s_one ?_
      exact s_raise0 PySem.F.excBase_RuntimeError gx.x_NotMade rfl (takes_of rfl rfl rfl rfl) rfl
    ·
      exact s_nil
  refine s_one ?_
  exact s_ret (d_var (pv 1))
theorem ck_order_making (g : G mg) (D : Df K mg "order_making" (top 51)) (gx : GX K mg) (c_want_order : CalM P w K mg base 7 "want_order" (spM K mg 1 s_want_order)) (c_making_of : CalM P w K mg base 30 "making_of" (spM K mg 1 s_making_of)) : CalK P w K mg base 31 "order_making" ["order"] false (spM K mg 1 s_order_making) := by
  have S := sc_order_making
  refine cal_defKE (k := 30) (n := 1) (m := 1) (ts := [1] ++ ([] ++ ([]) ++ ([]))) (N := ["order", "found"]) (ps := ["order"]) (ks := ["order"]) (rev := false) (b := b_order_making) D S rfl rfl rfl (fun _ _ _ _ _ _ us hl => match us, hl with | [_], _ => rfl) fun f cdv A outer s H E hr hgd => ?_
  refine s_seq ?_ ?_
  ·
    exact s_set S.nd rfl (by first | exact Or.inl rfl | exact Or.inr rfl) (r_dat (d_callW (c_making_of.mono (by decide)) hr hgd rfl (da_dat (d_callW (c_want_order.mono (by decide)) hr hgd rfl (da_dat (d_var (pv 0)) (da_nil))) (da_nil))))
  refine s_seq ?_ ?_
  ·
    refine s_if (dt_isN (d_var (pv 1))) ?_ ?_
    ·
      refine s_one ?_
      exact s_raise0 PySem.F.excBase_RuntimeError gx.x_NotMade rfl (takes_of rfl rfl rfl rfl) rfl
    ·
      exact s_nil
  refine s_one ?_
  exact s_ret (d_var (pv 1))
def b_order_by_making : Ss := sSeq (sIf (tNot (tD (cCall 1 s_is_any_making (aD (cV 0) (aNil))))) (sStuck) (sNext)) (sRet (cCall 1 s_order_by_node (aD (cV 0) (aNil))))
def s_order_by_making : Fs := bodyOf b_order_by_making 0 false
theorem sc_order_by_making : FnScope ["making"] ["making"] (defScope (top 52)) := ⟨rfl, rfl, rfl, by decide +kernel, rfl, by decide +kernel, by decide +kernel⟩
theorem c_order_by_making (g : G mg) (D : Df K mg "order_by_making" (top 52)) (c_is_any_making : CalM P w K mg base 51 "is_any_making" (spM K mg 1 s_is_any_making)) (c_order_by_node : CalM P w K mg base 50 "order_by_node" (spM K mg 1 s_order_by_node)) : CalM P w K mg base 52 "order_by_making" (spM K mg 1 s_order_by_making) := by
  have S := sc_order_by_making
  refine cal_def (k := 51) (n := 1) (m := 0) (ts := [] ++ ([]) ++ ([])) (N := ["making"]) (ps := ["making"]) (b := b_order_by_making) D S rfl rfl (fun _ _ _ _ _ _ us hl => match us, hl with | [_], _ => rfl) fun f cdv A outer s H E hr hgd => ?_
  refine s_seq ?_ ?_
  ·
    refine s_if (dt_not (dt_val (d_call (c_is_any_making.mono (by decide)) hr hgd rfl (da_dat (d_var (pv 0)) (da_nil))))) ?_ ?_
    ·
      refine s_one ?_
      exact s_stuck
    ·
      exact s_nil
  refine s_one ?_
  exact s_ret (d_call (c_order_by_node.mono (by decide)) hr hgd rfl (da_dat (d_var (pv 0)) (da_nil)))
theorem ck_order_by_making (g : G mg) (D : Df K mg "order_by_making" (top 52)) (c_is_any_making : CalM P w K mg base 51 "is_any_making" (spM K mg 1 s_is_any_making)) (c_order_by_node : CalM P w K mg base 50 "order_by_node" (spM K mg 1 s_order_by_node)) : CalK P w K mg base 52 "order_by_making" ["making"] false (spM K mg 1 s_order_by_making) := by
  have S := sc_order_by_making
  refine cal_defK (k := 51) (n := 1) (m := 0) (ts := [] ++ ([]) ++ ([])) (N := ["making"]) (ps := ["making"]) (ks := ["making"]) (rev := false) (b := b_order_by_making) D S rfl rfl rfl (fun _ _ _ _ _ _ us hl => match us, hl with | [_], _ => rfl) fun f cdv A outer s H E hr hgd => ?_
  refine s_seq ?_ ?_
  ·
    refine s_if (dt_not (dt_val (d_call (c_is_any_making.mono (by decide)) hr hgd rfl (da_dat (d_var (pv 0)) (da_nil))))) ?_ ?_
    ·
      refine s_one ?_
      exact s_stuck
    ·
      exact s_nil
  refine s_one ?_
  exact s_ret (d_call (c_order_by_node.mono (by decide)) hr hgd rfl (da_dat (d_var (pv 0)) (da_nil)))
def b_order_paper : Ss := sRet (cCall 1 s_paper_of (aD (cCall 1 s_want_order (aD (cV 0) (aNil))) (aNil)))
def s_order_paper : Fs := bodyOf b_order_paper 0 false
theorem sc_order_paper : FnScope ["order"] ["order"] (defScope (top 53)) := ⟨rfl, rfl, rfl, by decide +kernel, rfl, by decide +kernel, by decide +kernel⟩
theorem c_order_paper (g : G mg) (D : Df K mg "order_paper" (top 53)) (c_want_order : CalM P w K mg base 7 "want_order" (spM K mg 1 s_want_order)) (c_paper_of : CalM P w K mg base 31 "paper_of" (spM K mg 1 s_paper_of)) : CalM P w K mg base 32 "order_paper" (spM K mg 1 s_order_paper) := by
  have S := sc_order_paper
  refine cal_def (k := 31) (n := 1) (m := 0) (ts := []) (N := ["order"]) (ps := ["order"]) (b := b_order_paper) D S rfl rfl (fun _ _ _ _ _ _ us hl => match us, hl with | [_], _ => rfl) fun f cdv A outer s H E hr hgd => ?_
  refine s_one ?_
  exact s_ret (d_call (c_paper_of.mono (by decide)) hr hgd rfl (da_dat (d_call (c_want_order.mono (by decide)) hr hgd rfl (da_dat (d_var (pv 0)) (da_nil))) (da_nil)))
theorem ck_order_paper (g : G mg) (D : Df K mg "order_paper" (top 53)) (c_want_order : CalM P w K mg base 7 "want_order" (spM K mg 1 s_want_order)) (c_paper_of : CalM P w K mg base 31 "paper_of" (spM K mg 1 s_paper_of)) : CalK P w K mg base 32 "order_paper" ["order"] false (spM K mg 1 s_order_paper) := by
  have S := sc_order_paper
  refine cal_defK (k := 31) (n := 1) (m := 0) (ts := []) (N := ["order"]) (ps := ["order"]) (ks := ["order"]) (rev := false) (b := b_order_paper) D S rfl rfl rfl (fun _ _ _ _ _ _ us hl => match us, hl with | [_], _ => rfl) fun f cdv A outer s H E hr hgd => ?_
  refine s_one ?_
  exact s_ret (d_call (c_paper_of.mono (by decide)) hr hgd rfl (da_dat (d_call (c_want_order.mono (by decide)) hr hgd rfl (da_dat (d_var (pv 0)) (da_nil))) (da_nil)))
def b_is_order_paper : Ss := sRet (cCall 2 s_is_paper_of (aD (cCall 1 s_want_order (aD (cV 0) (aNil))) (aD (cV 1) (aNil))))
def s_is_order_paper : Fs := bodyOf b_is_order_paper 0 false
theorem sc_is_order_paper : FnScope ["order", "value"] ["order", "value"] (defScope (top 54)) := ⟨rfl, rfl, rfl, by decide +kernel, rfl, by decide +kernel, by decide +kernel⟩
theorem c_is_order_paper (g : G mg) (D : Df K mg "is_order_paper" (top 54)) (c_want_order : CalM P w K mg base 7 "want_order" (spM K mg 1 s_want_order)) (c_is_paper_of : CalM P w K mg base 53 "is_paper_of" (spM K mg 2 s_is_paper_of)) : CalM P w K mg base 54 "is_order_paper" (spM K mg 2 s_is_order_paper) := by
  have S := sc_is_order_paper
  refine cal_def (k := 53) (n := 2) (m := 0) (ts := []) (N := ["order", "value"]) (ps := ["order", "value"]) (b := b_is_order_paper) D S rfl rfl (fun _ _ _ _ _ _ us hl => match us, hl with | [_, _], _ => rfl) fun f cdv A outer s H E hr hgd => ?_
  refine s_one ?_
  exact s_ret (d_call (c_is_paper_of.mono (by decide)) hr hgd rfl (da_dat (d_call (c_want_order.mono (by decide)) hr hgd rfl (da_dat (d_var (pv 0)) (da_nil))) (da_dat (d_var (pv 1)) (da_nil))))
theorem ck_is_order_paper (g : G mg) (D : Df K mg "is_order_paper" (top 54)) (c_want_order : CalM P w K mg base 7 "want_order" (spM K mg 1 s_want_order)) (c_is_paper_of : CalM P w K mg base 53 "is_paper_of" (spM K mg 2 s_is_paper_of)) : CalK P w K mg base 54 "is_order_paper" ["value", "order"] true (spM K mg 2 s_is_order_paper) := by
  have S := sc_is_order_paper
  refine cal_defK (k := 53) (n := 2) (m := 0) (ts := []) (N := ["order", "value"]) (ps := ["order", "value"]) (ks := ["value", "order"]) (rev := true) (b := b_is_order_paper) D S rfl rfl rfl (fun _ _ _ _ _ _ us hl => match us, hl with | [_, _], _ => rfl) fun f cdv A outer s H E hr hgd => ?_
  refine s_one ?_
  exact s_ret (d_call (c_is_paper_of.mono (by decide)) hr hgd rfl (da_dat (d_call (c_want_order.mono (by decide)) hr hgd rfl (da_dat (d_var (pv 0)) (da_nil))) (da_dat (d_var (pv 1)) (da_nil))))
def b__law_pot : Ss := sSeq (sSet 2 (rD (cBin opAdd (cBin opMul (cK (.int 1031)) (cV 1)) (cK (.int 643))))) (sSeq (sIf (tD (cBin opLt (cV 1) (cLen (lS 0)))) (sSet 2 (rD (cUn opAbs (cIxS 0 (cV 1))))) (sNext)) (sRetL (nLst (dCons (cBin opMax2 (cK (.int 0)) (cBin opSub (cV 2) (cBin opPow (cK (.int 10)) (cK (.int 18))))) (dCons (cBin opAdd (cBin opMod (cUn opInt (cBin opAdd (cBin opAdd (cBin opMul (cBin opMod (cUn opInt (cV 2)) (cK (.int 2147483549))) (cK (.int 41221))) (cBin opMul (cK (.int 643)) (cV 1))) (cK (.int 59)))) (cK (.int 2147483563))) (cK (.int 1))) (dNil))))))
def s__law_pot : Fs := bodyOfN b__law_pot 1 
theorem sc__law_pot : FnScope ["script", "k", "cell"] ["script", "k"] (defScope (top 56)) := ⟨rfl, rfl, rfl, by decide +kernel, rfl, by decide +kernel, by decide +kernel⟩
theorem c__law_pot (g : G mg) (D : Df K mg "_law_pot" (top 56)) : CalM P w K mg base 2 "_law_pot" (spN K mg 2 s__law_pot) := by
  have S := sc__law_pot
  refine cal_defN (k := 1) (n := 2) (m := 1) (ts := [2] ++ ([2] ++ ([]) ++ ([]))) (N := ["script", "k", "cell"]) (ps := ["script", "k"]) (b := b__law_pot) D S rfl rfl (fun _ _ _ _ _ _ us hl => match us, hl with | [_, _], _ => rfl) fun f cdv A outer s H E hr hgd => ?_
  refine s_seq ?_ ?_
  ·
    exact s_set S.nd rfl (by first | exact Or.inl rfl | exact Or.inr rfl) (r_dat (d_bin op_addA ok_add (d_bin op_mul ok_mul (d_int) (d_var (pv 1))) (d_int)))
  refine s_seq ?_ ?_
  ·
    refine s_if (dt_cmp (op_ltA hr.units) ok_lt (d_var (pv 1)) (d_len (b := false) (c := true) rfl g.b_len (l_scr (pv 0))) (nomark _)) ?_ ?_
    ·
      refine s_one ?_
      exact s_set S.nd rfl (by first | exact Or.inl rfl | exact Or.inr rfl) (r_dat (d_abs rfl g.b_abs (d_ixS (pv 0) (d_var (pv 1)) (fun _ _ => rfl))))
    ·
      exact s_nil
  refine s_one ?_
  exact s_retL (n_lst (dd_cons (d_max2 rfl rfl g.b_max (d_int) (d_bin op_sub ok_sub (d_var (pv 2)) (d_bin op_pow ok_pow (d_int) (d_int)))) (dd_cons (d_bin op_addA ok_add (d_bin op_mod ok_mod (d_intI rfl g.b_int (d_bin op_addA ok_add (d_bin op_addA ok_add (d_bin op_mul ok_mul (d_bin op_mod ok_mod (d_intI rfl g.b_int (d_var (pv 2))) (d_int)) (d_int)) (d_bin op_mul ok_mul (d_int) (d_var (pv 1)))) (d_int))) (d_int)) (d_int)) (dd_nil))))
def b__law_draw : Ss := sSeq (sIf (tD (cBin opGt (cIxO 0 (cK (.int 0))) (cK (.int 0)))) (sSeq (sAsg (cBin opDivmod (cIxO 0 (cK (.int 0))) (cV 1)) (gTup [gPut 0 (cK (.int 0)), gN 2])) (sRet (cV 2))) (sNext)) (sSeq (sAsg (cBin opMod (cUn opInt (cBin opAdd (cBin opMul (cIxO 0 (cK (.int 1))) (cK (.int 48271))) (cK (.int 1087)))) (cK (.int 2147483587))) (gPut 0 (cK (.int 1)))) (sRet (cBin opMod (cUn opInt (cBin opDiv (cBin opMod (cUn opInt (cBin opMul (cIxO 0 (cK (.int 1))) (cIxO 0 (cK (.int 1))))) (cK (.int 2147483563))) (cK (.int 19)))) (cV 1))))
def s__law_draw : Fs := bodyOf b__law_draw 1 true
theorem sc__law_draw : FnScope ["pot", "many", "digit"] ["pot", "many"] (defScope (top 57)) := ⟨rfl, rfl, rfl, by decide +kernel, rfl, by decide +kernel, by decide +kernel⟩
theorem c__law_draw (g : G mg) (D : Df K mg "_law_draw" (top 57)) : CalM P w K mg base 2 "_law_draw" (spP K mg 2 s__law_draw) := by
  have S := sc__law_draw
  refine cal_defP (k := 1) (n := 2) (m := 1) (ts := ([] ++ ([2] ++ ([])) ++ ([])) ++ ([]) ++ ([] ++ ([]))) (N := ["pot", "many", "digit"]) (ps := ["pot", "many"]) (b := b__law_draw) D S rfl rfl (by decide) (fun _ _ _ _ _ _ us hl => match us, hl with | [_, _], _ => rfl) fun f cdv A outer s H E hr hgd => ?_
  refine s_seq ?_ ?_
  ·
    refine s_if (dt_cmp op_gt ok_gt (d_ixO (pv 0) (d_int) (fun _ _ => rfl)) (d_int) (nomark _)) ?_ ?_
    ·
      refine s_seq ?_ ?_
      ·
        exact s_asg (d_divmod rfl g.b_divmod (d_ixO (pv 0) (d_int) (fun _ _ => rfl)) (d_var (pv 1))) (g_tup rfl (gs_cons (g_put (pv 0) (d_int)) (gs_cons (g_name (pg_name S.nd rfl (by first | exact Or.inl rfl | exact Or.inr rfl))) (gs_nil))))
      refine s_one ?_
      exact s_ret (d_var (pv 2))
    ·
      exact s_nil
  refine s_seq ?_ ?_
  ·
    exact s_asg (d_bin op_mod ok_mod (d_intI rfl g.b_int (d_bin op_addA ok_add (d_bin op_mul ok_mul (d_ixO (pv 0) (d_int) (fun _ _ => rfl)) (d_int)) (d_int))) (d_int)) (g_put (pv 0) (d_int))
  refine s_one ?_
  exact s_ret (d_bin op_mod ok_mod (d_intI rfl g.b_int (d_bin op_fdiv ok_div (d_bin op_mod ok_mod (d_intI rfl g.b_int (d_bin op_mul ok_mul (d_ixO (pv 0) (d_int) (fun _ _ => rfl)) (d_ixO (pv 0) (d_int) (fun _ _ => rfl)))) (d_int)) (d_int))) (d_var (pv 1)))
def b__law_pick : Ss := sRet (cBin opIx (cV 1) (cCallP 1 s__law_draw 0 (aD (cLen (lD (cV 1))) (aNil))))
def s__law_pick : Fs := bodyOf b__law_pick 0 true
theorem sc__law_pick : FnScope ["pot", "some"] ["pot", "some"] (defScope (top 58)) := ⟨rfl, rfl, rfl, by decide +kernel, rfl, by decide +kernel, by decide +kernel⟩
theorem c__law_pick (g : G mg) (D : Df K mg "_law_pick" (top 58)) (c__law_draw : CalM P w K mg base 2 "_law_draw" (spP K mg 2 s__law_draw)) : CalM P w K mg base 3 "_law_pick" (spP K mg 2 s__law_pick) := by
  have S := sc__law_pick
  refine cal_defP (k := 2) (n := 2) (m := 0) (ts := []) (N := ["pot", "some"]) (ps := ["pot", "some"]) (b := b__law_pick) D S rfl rfl (by decide) (fun _ _ _ _ _ _ us hl => match us, hl with | [_, _], _ => rfl) fun f cdv A outer s H E hr hgd => ?_
  refine s_one ?_
  exact s_ret (d_ix (d_var (pv 1)) (d_callP (c__law_draw.mono (by decide)) hr hgd rfl (pv 0) (da_dat (d_len (b := false) (c := true) rfl g.b_len (l_dat (d_var (pv 1)))) (da_nil))) (fun _ _ => rfl))
def b__law_shuffled : Ss := sSeq (sPar 2 3 (rN (nList (lD (cV 1)))) (rN (nLst (dNil)))) (sSeq (sWhile 4000 (tD (cNilL true (lV 2))) (sApp 3 (cPopAt 2 (cCallP 1 s__law_draw 0 (aD (cLen (lV 2)) (aNil)))))) (sRet (cFzA 3)))
def s__law_shuffled : Fs := bodyOf b__law_shuffled 2 true
theorem sc__law_shuffled : FnScope ["pot", "some", "left", "found"] ["pot", "some"] (defScope (top 59)) := ⟨rfl, rfl, rfl, by decide +kernel, rfl, by decide +kernel, by decide +kernel⟩
theorem c__law_shuffled (g : G mg) (D : Df K mg "_law_shuffled" (top 59)) (c__law_draw : CalM P w K mg base 2 "_law_draw" (spP K mg 2 s__law_draw)) : CalM P w K mg base 3 "_law_shuffled" (spP K mg 2 s__law_shuffled) := by
  have S := sc__law_shuffled
  refine cal_defP (k := 2) (n := 2) (m := 2) (ts := [2, 3] ++ ([] ++ ([]))) (N := ["pot", "some", "left", "found"]) (ps := ["pot", "some"]) (b := b__law_shuffled) D S rfl rfl (by decide) (fun _ _ _ _ _ _ us hl => match us, hl with | [_, _], _ => rfl) fun f cdv A outer s H E hr hgd => ?_
  refine s_seq ?_ ?_
  ·
    first
      | exact s_par rfl S.nd rfl rfl (by decide) (Or.inl rfl) rfl rfl (r_new (n_list (b := false) (c := true) rfl g.b_list (l_dat (d_var (pv 1))))) (r_new (n_lst (dd_nil))) rfl
      | exact s_parC rfl S.nd rfl rfl (by first | exact Or.inl rfl | exact Or.inr rfl) (by first | exact Or.inl rfl | exact Or.inr rfl) (r_new (n_list (b := false) (c := true) rfl g.b_list (l_dat (d_var (pv 1))))) (r_new (n_lst (dd_nil))) rfl rfl
  refine s_seq ?_ ?_
  ·
    refine s_while (passes_of rfl) (dt_neNil (b := false) hr.units (l_own (pv 2))) ?_
    ·
      refine s_one ?_
      exact s_app (pv 3) (d_popAt (pv 2) (d_callP (c__law_draw.mono (by decide)) hr hgd rfl (pv 0) (da_dat (d_len (b := false) (c := true) rfl g.b_len (l_own (pv 2))) (da_nil))) rfl rfl rfl rfl rfl) rfl rfl rfl rfl rfl rfl
  refine s_one ?_
  exact s_ret (d_fzA (pv 3))
def b__law_joined : Ss := sSeq (sSet 1 (rN (nList (lD (cV 0))))) (sSeq (sFor (lD (cV 0)) (gTup [gN 2, gN 3]) (sExt 1 (cN (nLc (lD (cV 0)) (gTup [gN 4, gN 5]) (tD (cBin opEq (cV 4) (cV 3))) (cTup (dCons (cV 2) (dCons (cV 5) (dNil)))) (([("near", 4), ("far", 5)] : List (Str × Nat)).map (·.2)))))) (sRet (cN (nSortSet (lV 1)))))
def s__law_joined : Fs := bodyOf b__law_joined 5 false
theorem sc__law_joined : FnScope ["pairs", "late", "one", "other", "near", "far"] ["pairs"] (defScope (top 61)) := ⟨rfl, rfl, rfl, by decide +kernel, rfl, by decide +kernel, by decide +kernel⟩
theorem c__law_joined (g : G mg) (D : Df K mg "_law_joined" (top 61)) : CalM P w K mg base 2 "_law_joined" (spM K mg 1 s__law_joined) := by
  have S := sc__law_joined
  refine cal_def (k := 1) (n := 1) (m := 5) (ts := [1] ++ (([2] ++ ([3] ++ ([]))) ++ ([]) ++ ([]))) (N := ["pairs", "late", "one", "other", "near", "far"]) (ps := ["pairs"]) (b := b__law_joined) D S rfl rfl (fun _ _ _ _ _ _ us hl => match us, hl with | [_], _ => rfl) fun f cdv A outer s H E hr hgd => ?_
  refine s_seq ?_ ?_
  ·
    exact s_set S.nd rfl (by first | exact Or.inl rfl | exact Or.inr rfl) (r_new (n_list (b := false) (c := true) rfl g.b_list (l_dat (d_var (pv 0)))))
  refine s_seq ?_ ?_
  ·
    refine s_for (passes_of rfl) rfl (i_seq (l_dat (d_var (pv 0)))) (g_tup rfl (gs_cons (g_name (pg_name S.nd rfl (by first | exact Or.inl rfl | exact Or.inr rfl))) (gs_cons (g_name (pg_name S.nd rfl (by first | exact Or.inl rfl | exact Or.inr rfl))) (gs_nil)))) ?_
    ·
      refine s_one ?_
      exact s_ext (pv 1) (d_new (n_lc rfl S.nd (own := [("near", 4), ("far", 5)]) (ts := [4] ++ ([5] ++ ([]))) (i_seq (l_dat (d_var (pv 0)))) (blk_of (by kernel_rfl)) (by decide) (fun _ _ _ _ _ => g_tup rfl (gs_cons (g_name (pg_name S.nd rfl (by first | exact Or.inl rfl | exact Or.inr rfl))) (gs_cons (g_name (pg_name S.nd rfl (by first | exact Or.inl rfl | exact Or.inr rfl))) (gs_nil)))) (fun _ _ _ _ _ => wf_one (dt_cmp (op_eqA hr.units) ok_eq (d_var (pv 4)) (d_var (pv 3)) (nomark _))) (fun _ _ _ _ _ => d_tup (dd_cons (d_var (pv 2)) (dd_cons (d_var (pv 5)) (dd_nil)))))) rfl rfl rfl rfl rfl rfl
  refine s_one ?_
  exact s_ret (d_new (n_sortSet (b := false) rfl hr.units rfl g.b_sorted rfl g.b_set (l_own (pv 1))))
def b__law_closed : Ss := sSeq (sSet 2 (rD (cN (nSortSet (lDl (cV 1)))))) (sSeq (sFor (iRg1 (cV 0)) (gN 3) (sSet 2 (rD (cCall 1 s__law_joined (aD (cV 2) (aNil)))))) (sRet (cTuple (lD (cV 2)))))
def s__law_closed : Fs := bodyOf b__law_closed 2 false
theorem sc__law_closed : FnScope ["many", "pairs", "found", "turn"] ["many", "pairs"] (defScope (top 60)) := ⟨rfl, rfl, rfl, by decide +kernel, rfl, by decide +kernel, by decide +kernel⟩
theorem c__law_closed (g : G mg) (D : Df K mg "_law_closed" (top 60)) (c__law_joined : CalM P w K mg base 2 "_law_joined" (spM K mg 1 s__law_joined)) : CalM P w K mg base 3 "_law_closed" (spM K mg 2 s__law_closed) := by
  have S := sc__law_closed
  refine cal_def (k := 2) (n := 2) (m := 2) (ts := [2] ++ ([3] ++ ([2]) ++ ([]))) (N := ["many", "pairs", "found", "turn"]) (ps := ["many", "pairs"]) (b := b__law_closed) D S rfl rfl (fun _ _ _ _ _ _ us hl => match us, hl with | [_, _], _ => rfl) fun f cdv A outer s H E hr hgd => ?_
  refine s_seq ?_ ?_
  ·
    exact s_set S.nd rfl (by first | exact Or.inl rfl | exact Or.inr rfl) (r_dat (d_new (n_sortSet (b := false) rfl hr.units rfl g.b_sorted rfl g.b_set (l_datL (d_var (pv 1))))))
  refine s_seq ?_ ?_
  ·
    refine s_for (passes_of rfl) rfl (i_rg1 rfl g.b_range (d_var (pv 0))) (g_name (pg_name S.nd rfl (by first | exact Or.inl rfl | exact Or.inr rfl))) ?_
    ·
      refine s_one ?_
      exact s_set S.nd rfl (by first | exact Or.inl rfl | exact Or.inr rfl) (r_dat (d_call (c__law_joined.mono (by decide)) hr hgd rfl (da_dat (d_var (pv 2)) (da_nil))))
  refine s_one ?_
  exact s_ret (d_tuple (b := false) (c := true) rfl g.b_tuple (l_dat (d_var (pv 2))))
def b__law_order : Ss := sSeq (sSet 3 (rD (cBin opAdd (cK (.int 1)) (cCallP 1 s__law_draw 0 (aD (cV 1) (aNil)))))) (sSeq (sPar 4 5 (rD (cCallP 1 s__law_shuffled 0 (aD (cN (nRg1 (cV 3))) (aNil)))) (rN (nLst (dNil)))) (sSeq (sFor (iRg1 (cV 3)) (gN 6) (sExt 5 (cN (nLc (iRg2 (cBin opAdd (cV 6) (cK (.int 1))) (cV 3)) (gN 7) (tD (cBin opEq (cCallP 1 s__law_draw 0 (aD (cV 2) (aNil))) (cK (.int 0)))) (cTup (dCons (cBin opIx (cV 4) (cV 6)) (dCons (cBin opIx (cV 4) (cV 7)) (dNil)))) (([("to", 7)] : List (Str × Nat)).map (·.2)))))) (sRet (cTup (dCons (cTup (dCons (cK (.str "order")) (dCons (cV 3) (dCons (cCall 2 s__law_closed (aD (cV 3) (aD (cFzA 5) (aNil)))) (dNil))))) (dCons (cCallP 1 s__law_shuffled 0 (aD (cFzA 5) (aNil))) (dNil)))))))
def s__law_order : Fs := bodyOf b__law_order 5 true
theorem sc__law_order : FnScope ["pot", "most", "part", "many", "row", "pairs", "at", "to"] ["pot", "most", "part"] (defScope (top 62)) := ⟨rfl, rfl, rfl, by decide +kernel, rfl, by decide +kernel, by decide +kernel⟩
theorem c__law_order (g : G mg) (D : Df K mg "_law_order" (top 62)) (c__law_draw : CalM P w K mg base 2 "_law_draw" (spP K mg 2 s__law_draw)) (c__law_shuffled : CalM P w K mg base 3 "_law_shuffled" (spP K mg 2 s__law_shuffled)) (c__law_closed : CalM P w K mg base 3 "_law_closed" (spM K mg 2 s__law_closed)) : CalM P w K mg base 4 "_law_order" (spP K mg 3 s__law_order) := by
  have S := sc__law_order
  refine cal_defP (k := 3) (n := 3) (m := 5) (ts := [3] ++ ([4, 5] ++ ([6] ++ ([]) ++ ([])))) (N := ["pot", "most", "part", "many", "row", "pairs", "at", "to"]) (ps := ["pot", "most", "part"]) (b := b__law_order) D S rfl rfl (by decide) (fun _ _ _ _ _ _ us hl => match us, hl with | [_, _, _], _ => rfl) fun f cdv A outer s H E hr hgd => ?_
  refine s_seq ?_ ?_
  ·
    exact s_set S.nd rfl (by first | exact Or.inl rfl | exact Or.inr rfl) (r_dat (d_bin op_addA ok_add (d_int) (d_callP (c__law_draw.mono (by decide)) hr hgd rfl (pv 0) (da_dat (d_var (pv 1)) (da_nil)))))
  refine s_seq ?_ ?_
  ·
    first
      | exact s_par rfl S.nd rfl rfl (by decide) (Or.inl rfl) rfl rfl (r_dat (d_callP (c__law_shuffled.mono (by decide)) hr hgd rfl (pv 0) (da_dat (d_new (n_rg1 rfl rfl g.b_list rfl g.b_range (d_var (pv 3)))) (da_nil)))) (r_new (n_lst (dd_nil))) rfl
      | exact s_parC rfl S.nd rfl rfl (by first | exact Or.inl rfl | exact Or.inr rfl) (by first | exact Or.inl rfl | exact Or.inr rfl) (r_dat (d_callP (c__law_shuffled.mono (by decide)) hr hgd rfl (pv 0) (da_dat (d_new (n_rg1 rfl rfl g.b_list rfl g.b_range (d_var (pv 3)))) (da_nil)))) (r_new (n_lst (dd_nil))) rfl rfl
  refine s_seq ?_ ?_
  ·
    refine s_for (passes_of rfl) rfl (i_rg1 rfl g.b_range (d_var (pv 3))) (g_name (pg_name S.nd rfl (by first | exact Or.inl rfl | exact Or.inr rfl))) ?_
    ·
      refine s_one ?_
      exact s_ext (pv 5) (d_new (n_lc rfl S.nd (own := [("to", 7)]) (ts := [7]) (i_rg2 rfl g.b_range (d_bin op_addA ok_add (d_var (pv 6)) (d_int)) (d_var (pv 3))) (blk_of (by kernel_rfl)) (by decide) (fun _ _ _ _ _ => g_name (pg_name S.nd rfl (by first | exact Or.inl rfl | exact Or.inr rfl))) (fun _ _ _ _ _ => wf_one (dt_cmp (op_eqA hr.units) ok_eq (d_callP (c__law_draw.mono (by decide)) hr hgd rfl (pv 0) (da_dat (d_var (pv 2)) (da_nil))) (d_int) (nomark _))) (fun _ _ _ _ _ => d_tup (dd_cons (d_ix (d_var (pv 4)) (d_var (pv 6)) (fun _ _ => rfl)) (dd_cons (d_ix (d_var (pv 4)) (d_var (pv 7)) (fun _ _ => rfl)) (dd_nil)))))) rfl rfl rfl rfl rfl rfl
  refine s_one ?_
  exact s_ret (d_tup (dd_cons (d_tup (dd_cons (d_str) (dd_cons (d_var (pv 3)) (dd_cons (d_call (c__law_closed.mono (by decide)) hr hgd rfl (da_dat (d_var (pv 3)) (da_dat (d_fzA (pv 5)) (da_nil)))) (dd_nil))))) (dd_cons (d_callP (c__law_shuffled.mono (by decide)) hr hgd rfl (pv 0) (da_dat (d_fzA (pv 5)) (da_nil))) (dd_nil))))
def b__law_node (self : Fs) : Ss := sSeq (sIf (tD (cBin opEq (cLen (lD (cV 1))) (cK (.int 1)))) (sRet (cTup (dCons (cK (.str "work")) (dCons (cBin opIx (cV 1) (cK (.int 0))) (dNil))))) (sNext)) (sSeq (sSet 3 (rD (cIf (tD (cBin opEq (cV 2) (cK (.str "beside")))) (cK (.str "behind")) (cK (.str "beside"))))) (sSeq (sPar 4 5 (rN (nLst (dNil))) (rD (cN (nList (lD (cV 1)))))) (sSeq (sWhile 4000 (tD (cBin opNe (cV 5) (cN (nLst (dNil))))) (sSeq (sSet 6 (rD (cBin opAdd (cK (.int 1)) (cCallP 1 s__law_draw 0 (aD (cBin opMax2 (cK (.int 1)) (cBin opMin2 (cLen (lD (cV 5))) (cBin opSub (cLen (lD (cV 1))) (cK (.int 1))))) (aNil)))))) (sSeq (sApp 4 (cCallP 2 self 0 (aD (cSl (cV 5) (oNone) (oSome (cV 6))) (aD (cV 3) (aNil))))) (sSet 5 (rD (cSl (cV 5) (oSome (cV 6)) (oNone))))))) (sRet (cTup (dCons (cV 2) (dCons (cTuple (lV 4)) (dNil))))))))
def s__law_node : Nat → Fs
  | 0 => fun _ => .stuck
  | n + 1 => bodyOf (b__law_node (s__law_node n)) 4 true
theorem sc__law_node : FnScope ["pot", "works", "word", "other", "parts", "left", "size"] ["pot", "works", "word"] (defScope (top 63)) := ⟨rfl, rfl, rfl, by decide +kernel, rfl, by decide +kernel, by decide +kernel⟩
theorem c__law_node (g : G mg) (D : Df K mg "_law_node" (top 63)) (c__law_draw : CalM P w K mg base 2 "_law_draw" (spP K mg 2 s__law_draw)) : ∀ n : Nat, CalM P w K mg base (2 + n) "_law_node" (spP K mg 3 (s__law_node n))
  | 0 => cal_zeroP (n := 3) (ps := ["pot", "works", "word"]) D rfl (fun _ _ _ _ _ _ us hl => match us, hl with | [_, _, _], _ => rfl)
  | n + 1 => by
    have ih := c__law_node g D c__law_draw n
    have S := sc__law_node
    have KK : ∀ {j : Nat}, j ≤ 2 → j ≤ 2 + n := fun h => Nat.le_trans h (Nat.le_add_right _ _)
    refine cal_defP (n := 3) (m := 4) (ts := [] ++ ([]) ++ ([3] ++ ([4, 5] ++ ([6] ++ ([] ++ ([5])) ++ ([]))))) (N := ["pot", "works", "word", "other", "parts", "left", "size"]) (ps := ["pot", "works", "word"]) (b := b__law_node (s__law_node n)) D S rfl rfl (by decide) (fun _ _ _ _ _ _ us hl => match us, hl with | [_, _, _], _ => rfl) fun f cdv A outer s H E hr hgd => ?_
    refine s_seq ?_ ?_
    ·
      refine s_if (dt_cmp (op_eqA hr.units) ok_eq (d_len (b := false) (c := true) rfl g.b_len (l_dat (d_var (pv 1)))) (d_int) (nomark _)) ?_ ?_
      ·
        refine s_one ?_
        exact s_ret (d_tup (dd_cons (d_str) (dd_cons (d_ix (d_var (pv 1)) (d_int) (fun _ _ => rfl)) (dd_nil))))
      ·
        exact s_nil
    refine s_seq ?_ ?_
    ·
      exact s_set S.nd rfl (by first | exact Or.inl rfl | exact Or.inr rfl) (r_dat (d_if (dt_cmp (op_eqA hr.units) ok_eq (d_var (pv 2)) (d_str) (nomark _)) (d_str) (d_str)))
    refine s_seq ?_ ?_
    ·
      first
        | exact s_par rfl S.nd rfl rfl (by decide) (Or.inl rfl) rfl rfl (r_new (n_lst (dd_nil))) (r_dat (d_new (n_list (b := false) (c := true) rfl g.b_list (l_dat (d_var (pv 1)))))) rfl
        | exact s_parC rfl S.nd rfl rfl (by first | exact Or.inl rfl | exact Or.inr rfl) (by first | exact Or.inl rfl | exact Or.inr rfl) (r_new (n_lst (dd_nil))) (r_dat (d_new (n_list (b := false) (c := true) rfl g.b_list (l_dat (d_var (pv 1)))))) rfl rfl
    refine s_seq ?_ ?_
    ·
      refine s_while (passes_of rfl) (dt_cmp (op_neA hr.units) ok_ne (d_var (pv 5)) (d_new (n_lst (dd_nil))) (nomark _)) ?_
      ·
        refine s_seq ?_ ?_
        ·
          exact s_set S.nd rfl (by first | exact Or.inl rfl | exact Or.inr rfl) (r_dat (d_bin op_addA ok_add (d_int) (d_callP (c__law_draw.mono (KK (by decide))) hr hgd rfl (pv 0) (da_dat (d_max2 rfl rfl g.b_max (d_int) (d_min2 rfl rfl g.b_min (d_len (b := false) (c := true) rfl g.b_len (l_dat (d_var (pv 5)))) (d_bin op_sub ok_sub (d_len (b := false) (c := true) rfl g.b_len (l_dat (d_var (pv 1)))) (d_int)))) (da_nil)))))
        refine s_seq ?_ ?_
        ·
          exact s_app (pv 4) (d_callP ih hr hgd rfl (pv 0) (da_dat (d_sl (d_var (pv 5)) o_none (o_some (d_var (pv 6)))) (da_dat (d_var (pv 3)) (da_nil)))) rfl rfl rfl rfl rfl rfl
        refine s_one ?_
        exact s_set S.nd rfl (by first | exact Or.inl rfl | exact Or.inr rfl) (r_dat (d_sl (d_var (pv 5)) (o_some (d_var (pv 6))) o_none))
    refine s_one ?_
    exact s_ret (d_tup (dd_cons (d_var (pv 2)) (dd_cons (d_tuple (b := false) (c := true) rfl g.b_tuple (l_own (pv 4))) (dd_nil))))
def b__law_works_in (self : Fs) : Ss := sSeq (sIf (tD (cBin opEq (cBin opIx (cV 0) (cK (.int 0))) (cK (.str "work")))) (sRet (cN (nLst (dCons (cBin opIx (cV 0) (cK (.int 1))) (dNil))))) (sNext)) (sSeq (sSet 1 (rN (nLst (dNil)))) (sSeq (sFor (lD (cBin opIx (cV 0) (cK (.int 1)))) (gN 2) (sExt 1 (cCall 1 self (aD (cV 2) (aNil))))) (sRet (cFzA 1))))
def s__law_works_in : Nat → Fs
  | 0 => fun _ => .stuck
  | n + 1 => bodyOf (b__law_works_in (s__law_works_in n)) 2 false
theorem sc__law_works_in : FnScope ["node", "found", "part"] ["node"] (defScope (top 64)) := ⟨rfl, rfl, rfl, by decide +kernel, rfl, by decide +kernel, by decide +kernel⟩
theorem c__law_works_in (g : G mg) (D : Df K mg "_law_works_in" (top 64)) : ∀ n : Nat, CalM P w K mg base (1 + n) "_law_works_in" (spM K mg 1 (s__law_works_in n))
  | 0 => cal_zero (n := 1) (ps := ["node"]) D rfl (fun _ _ _ _ _ _ us hl => match us, hl with | [_], _ => rfl)
  | n + 1 => by
    have ih := c__law_works_in g D  n
    have S := sc__law_works_in
    have KK : ∀ {j : Nat}, j ≤ 1 → j ≤ 1 + n := fun h => Nat.le_trans h (Nat.le_add_right _ _)
    refine cal_def (n := 1) (m := 2) (ts := [] ++ ([]) ++ ([1] ++ ([2] ++ ([]) ++ ([])))) (N := ["node", "found", "part"]) (ps := ["node"]) (b := b__law_works_in (s__law_works_in n)) D S rfl rfl (fun _ _ _ _ _ _ us hl => match us, hl with | [_], _ => rfl) fun f cdv A outer s H E hr hgd => ?_
    refine s_seq ?_ ?_
    ·
      refine s_if (dt_cmp (op_eqA hr.units) ok_eq (d_ix (d_var (pv 0)) (d_int) (fun _ _ => rfl)) (d_str) (nomark _)) ?_ ?_
      ·
        refine s_one ?_
        exact s_ret (d_new (n_lst (dd_cons (d_ix (d_var (pv 0)) (d_int) (fun _ _ => rfl)) (dd_nil))))
      ·
        exact s_nil
    refine s_seq ?_ ?_
    ·
      exact s_set S.nd rfl (by first | exact Or.inl rfl | exact Or.inr rfl) (r_new (n_lst (dd_nil)))
    refine s_seq ?_ ?_
    ·
      refine s_for (passes_of rfl) rfl (i_seq (l_dat (d_ix (d_var (pv 0)) (d_int) (fun _ _ => rfl)))) (g_name (pg_name S.nd rfl (by first | exact Or.inl rfl | exact Or.inr rfl))) ?_
      ·
        refine s_one ?_
        exact s_ext (pv 1) (d_call ih hr hgd rfl (da_dat (d_var (pv 2)) (da_nil))) rfl rfl rfl rfl rfl rfl
    refine s_one ?_
    exact s_ret (d_fzA (pv 1))
def b__law_pairs_in (self : Fs) : Ss := sSeq (sIf (tD (cBin opEq (cBin opIx (cV 0) (cK (.int 0))) (cK (.str "work")))) (sRet (cN (nLst (dNil)))) (sNext)) (sSeq (sSet 1 (rN (nLst (dNil)))) (sSeq (sFor (iEnum (lD (cBin opIx (cV 0) (cK (.int 1))))) (gTup [gN 2, gN 3]) (sSeq (sExt 1 (cCall 1 self (aD (cV 3) (aNil)))) (sFor (lD (cIf (tD (cBin opEq (cBin opIx (cV 0) (cK (.int 0))) (cK (.str "behind")))) (cSl (cBin opIx (cV 0) (cK (.int 1))) (oSome (cBin opAdd (cV 2) (cK (.int 1)))) (oNone)) (cTup (dNil)))) (gN 4) (sFor (lD (cCall 1 (s__law_works_in 24) (aD (cV 3) (aNil)))) (gN 5) (sExt 1 (cN (nLc (lD (cCall 1 (s__law_works_in 24) (aD (cV 4) (aNil)))) (gN 6) (tYes) (cTup (dCons (cV 5) (dCons (cV 6) (dNil)))) (([("other", 6)] : List (Str × Nat)).map (·.2))))))))) (sRet (cFzA 1))))
def s__law_pairs_in : Nat → Fs
  | 0 => fun _ => .stuck
  | n + 1 => bodyOf (b__law_pairs_in (s__law_pairs_in n)) 6 false
theorem sc__law_pairs_in : FnScope ["node", "found", "at", "part", "late", "one", "other"] ["node"] (defScope (top 65)) := ⟨rfl, rfl, rfl, by decide +kernel, rfl, by decide +kernel, by decide +kernel⟩
theorem c__law_pairs_in (g : G mg) (D : Df K mg "_law_pairs_in" (top 65)) (c__law_works_in : CalM P w K mg base 25 "_law_works_in" (spM K mg 1 (s__law_works_in 24))) : ∀ n : Nat, CalM P w K mg base (25 + n) "_law_pairs_in" (spM K mg 1 (s__law_pairs_in n))
  | 0 => cal_zero (n := 1) (ps := ["node"]) D rfl (fun _ _ _ _ _ _ us hl => match us, hl with | [_], _ => rfl)
  | n + 1 => by
    have ih := c__law_pairs_in g D c__law_works_in n
    have S := sc__law_pairs_in
    have KK : ∀ {j : Nat}, j ≤ 25 → j ≤ 25 + n := fun h => Nat.le_trans h (Nat.le_add_right _ _)
    refine cal_def (n := 1) (m := 6) (ts := [] ++ ([]) ++ ([1] ++ (([2] ++ ([3] ++ ([]))) ++ ([] ++ ([4] ++ ([5] ++ ([])))) ++ ([])))) (N := ["node", "found", "at", "part", "late", "one", "other"]) (ps := ["node"]) (b := b__law_pairs_in (s__law_pairs_in n)) D S rfl rfl (fun _ _ _ _ _ _ us hl => match us, hl with | [_], _ => rfl) fun f cdv A outer s H E hr hgd => ?_
    refine s_seq ?_ ?_
    ·
      refine s_if (dt_cmp (op_eqA hr.units) ok_eq (d_ix (d_var (pv 0)) (d_int) (fun _ _ => rfl)) (d_str) (nomark _)) ?_ ?_
      ·
        refine s_one ?_
        exact s_ret (d_new (n_lst (dd_nil)))
      ·
        exact s_nil
    refine s_seq ?_ ?_
    ·
      exact s_set S.nd rfl (by first | exact Or.inl rfl | exact Or.inr rfl) (r_new (n_lst (dd_nil)))
    refine s_seq ?_ ?_
    ·
      refine s_for (passes_of rfl) rfl (i_enum rfl g.b_enumerate (l_dat (d_ix (d_var (pv 0)) (d_int) (fun _ _ => rfl)))) (g_tup rfl (gs_cons (g_name (pg_name S.nd rfl (by first | exact Or.inl rfl | exact Or.inr rfl))) (gs_cons (g_name (pg_name S.nd rfl (by first | exact Or.inl rfl | exact Or.inr rfl))) (gs_nil)))) ?_
      ·
        refine s_seq ?_ ?_
        ·
          exact s_ext (pv 1) (d_call ih hr hgd rfl (da_dat (d_var (pv 3)) (da_nil))) rfl rfl rfl rfl rfl rfl
        refine s_one ?_
        refine s_for (passes_of rfl) rfl (i_seq (l_dat (d_if (dt_cmp (op_eqA hr.units) ok_eq (d_ix (d_var (pv 0)) (d_int) (fun _ _ => rfl)) (d_str) (nomark _)) (d_sl (d_ix (d_var (pv 0)) (d_int) (fun _ _ => rfl)) (o_some (d_bin op_addA ok_add (d_var (pv 2)) (d_int))) o_none) (d_tup (dd_nil))))) (g_name (pg_name S.nd rfl (by first | exact Or.inl rfl | exact Or.inr rfl))) ?_
        ·
          refine s_one ?_
          refine s_for (passes_of rfl) rfl (i_seq (l_dat (d_call (c__law_works_in.mono (KK (by decide))) hr hgd rfl (da_dat (d_var (pv 3)) (da_nil))))) (g_name (pg_name S.nd rfl (by first | exact Or.inl rfl | exact Or.inr rfl))) ?_
          ·
            refine s_one ?_
            exact s_ext (pv 1) (d_new (n_lc rfl S.nd (own := [("other", 6)]) (ts := [6]) (i_seq (l_dat (d_call (c__law_works_in.mono (KK (by decide))) hr hgd rfl (da_dat (d_var (pv 4)) (da_nil))))) (blk_of (by kernel_rfl)) (by decide) (fun _ _ _ _ _ => g_name (pg_name S.nd rfl (by first | exact Or.inl rfl | exact Or.inr rfl))) (fun _ _ _ _ _ => wf_nil rfl rfl) (fun _ _ _ _ _ => d_tup (dd_cons (d_var (pv 5)) (dd_cons (d_var (pv 6)) (dd_nil)))))) rfl rfl rfl rfl rfl rfl
    refine s_one ?_
    exact s_ret (d_fzA (pv 1))
def b__law_least_work : Ss := sRet (cMin (lDl (cCall 1 (s__law_works_in 24) (aD (cV 0) (aNil)))))
def s__law_least_work : Fs := bodyOf b__law_least_work 0 false
theorem sc__law_least_work : FnScope ["node"] ["node"] (defScope (top 67)) := ⟨rfl, rfl, rfl, by decide +kernel, rfl, by decide +kernel, by decide +kernel⟩
theorem c__law_least_work (g : G mg) (D : Df K mg "_law_least_work" (top 67)) (c__law_works_in : CalM P w K mg base 25 "_law_works_in" (spM K mg 1 (s__law_works_in 24))) : CalM P w K mg base 26 "_law_least_work" (spM K mg 1 s__law_least_work) := by
  have S := sc__law_least_work
  refine cal_def (k := 25) (n := 1) (m := 0) (ts := []) (N := ["node"]) (ps := ["node"]) (b := b__law_least_work) D S rfl rfl (fun _ _ _ _ _ _ us hl => match us, hl with | [_], _ => rfl) fun f cdv A outer s H E hr hgd => ?_
  refine s_one ?_
  exact s_ret (d_min (b := false) rfl rfl g.b_min (l_datL (d_call (c__law_works_in.mono (by decide)) hr hgd rfl (da_dat (d_var (pv 0)) (da_nil)))))
def b__law_least_first (self : Fs) : Ss := sSeq (sIf (tD (cBin opEq (cBin opIx (cV 0) (cK (.int 0))) (cK (.str "work")))) (sRet (cV 0)) (sNext)) (sSeq (sSet 1 (rD (cN (nLc (lD (cBin opIx (cV 0) (cK (.int 1)))) (gN 2) (tYes) (cCall 1 self (aD (cV 2) (aNil))) (([("part", 2)] : List (Str × Nat)).map (·.2)))))) (sRet (cTup (dCons (cBin opIx (cV 0) (cK (.int 0))) (dCons (cTuple (lD (cIf (tD (cBin opEq (cBin opIx (cV 0) (cK (.int 0))) (cK (.str "behind")))) (cV 1) (cN (nSortK (lDl (cV 1)) s__law_least_work))))) (dNil))))))
def s__law_least_first : Nat → Fs
  | 0 => fun _ => .stuck
  | n + 1 => bodyOf (b__law_least_first (s__law_least_first n)) 2 false
theorem sc__law_least_first : FnScope ["node", "parts", "part"] ["node"] (defScope (top 66)) := ⟨rfl, rfl, rfl, by decide +kernel, rfl, by decide +kernel, by decide +kernel⟩
theorem c__law_least_first (g : G mg) (D : Df K mg "_law_least_first" (top 66)) (c__law_least_work : CalM P w K mg base 26 "_law_least_work" (spM K mg 1 s__law_least_work)) : ∀ n : Nat, CalM P w K mg base (28 + n) "_law_least_first" (spM K mg 1 (s__law_least_first n))
  | 0 => cal_zero (n := 1) (ps := ["node"]) D rfl (fun _ _ _ _ _ _ us hl => match us, hl with | [_], _ => rfl)
  | n + 1 => by
    have ih := c__law_least_first g D c__law_least_work n
    have S := sc__law_least_first
    have KK : ∀ {j : Nat}, j ≤ 28 → j ≤ 28 + n := fun h => Nat.le_trans h (Nat.le_add_right _ _)
    refine cal_def (n := 1) (m := 2) (ts := [] ++ ([]) ++ ([1] ++ ([]))) (N := ["node", "parts", "part"]) (ps := ["node"]) (b := b__law_least_first (s__law_least_first n)) D S rfl rfl (fun _ _ _ _ _ _ us hl => match us, hl with | [_], _ => rfl) fun f cdv A outer s H E hr hgd => ?_
    refine s_seq ?_ ?_
    ·
      refine s_if (dt_cmp (op_eqA hr.units) ok_eq (d_ix (d_var (pv 0)) (d_int) (fun _ _ => rfl)) (d_str) (nomark _)) ?_ ?_
      ·
        refine s_one ?_
        exact s_ret (d_var (pv 0))
      ·
        exact s_nil
    refine s_seq ?_ ?_
    ·
      first
        | exact s_setLcD rfl S.nd rfl rfl (sw_true rfl rfl rfl rfl) (own := [("part", 2)]) (ts := [2]) (i_seq (l_dat (d_ix (d_var (pv 0)) (d_int) (fun _ _ => rfl)))) (blk_of (by kernel_rfl)) (by decide) (fun _ _ _ _ _ => g_name (pg_name S.nd rfl (by first | exact Or.inl rfl | exact Or.inr rfl))) (fun _ _ _ _ _ => wf_nil rfl rfl) (fun _ _ _ _ _ => d_call ih hr hgd rfl (da_dat (d_var (pv 2)) (da_nil))) (fun _ => rfl)
        | exact s_set S.nd rfl (by first | exact Or.inl rfl | exact Or.inr rfl) (r_dat (d_new (n_lc rfl S.nd (own := [("part", 2)]) (ts := [2]) (i_seq (l_dat (d_ix (d_var (pv 0)) (d_int) (fun _ _ => rfl)))) (blk_of (by kernel_rfl)) (by decide) (fun _ _ _ _ _ => g_name (pg_name S.nd rfl (by first | exact Or.inl rfl | exact Or.inr rfl))) (fun _ _ _ _ _ => wf_nil rfl rfl) (fun _ _ _ _ _ => d_call ih hr hgd rfl (da_dat (d_var (pv 2)) (da_nil))))))
    refine s_one ?_
    exact s_ret (d_tup (dd_cons (d_ix (d_var (pv 0)) (d_int) (fun _ _ => rfl)) (dd_cons (d_tuple (b := false) (c := true) rfl g.b_tuple (l_dat (d_if (dt_cmp (op_eqA hr.units) ok_eq (d_ix (d_var (pv 0)) (d_int) (fun _ _ => rfl)) (d_str) (nomark _)) (d_var (pv 1)) (d_new (n_sortK (b := false) (k := 26 + n) (c__law_least_work.mono (by omega)) (hr.mono (show 26 + n + 2 ≤ 28 + n by omega)) hgd rfl g.b_sorted rfl (l_datL (d_var (pv 1)))))))) (dd_nil))))
def b__law_made_order : Ss := sSeq (sSet 2 (rD (cBin opAdd (cK (.int 1)) (cCallP 1 s__law_draw 0 (aD (cV 1) (aNil)))))) (sSeq (sSet 3 (rD (cCall 1 (s__law_least_first 24) (aD (cCallP 2 (s__law_node 24) 0 (aD (cCallP 1 s__law_shuffled 0 (aD (cN (nRg1 (cV 2))) (aNil))) (aD (cCallP 1 s__law_pick 0 (aD (cN (nLst (dCons (cK (.str "behind")) (dCons (cK (.str "beside")) (dNil))))) (aNil))) (aNil)))) (aNil))))) (sRet (cTup (dCons (cTup (dCons (cK (.str "order")) (dCons (cV 2) (dCons (cTuple (nSorted (lD (cCall 1 (s__law_pairs_in 24) (aD (cV 3) (aNil)))))) (dNil))))) (dCons (cV 3) (dNil))))))
def s__law_made_order : Fs := bodyOf b__law_made_order 2 true
theorem sc__law_made_order : FnScope ["pot", "most", "many", "node"] ["pot", "most"] (defScope (top 68)) := ⟨rfl, rfl, rfl, by decide +kernel, rfl, by decide +kernel, by decide +kernel⟩
theorem c__law_made_order (g : G mg) (D : Df K mg "_law_made_order" (top 68)) (c__law_draw : CalM P w K mg base 2 "_law_draw" (spP K mg 2 s__law_draw)) (c__law_node : CalM P w K mg base 26 "_law_node" (spP K mg 3 (s__law_node 24))) (c__law_pick : CalM P w K mg base 3 "_law_pick" (spP K mg 2 s__law_pick)) (c__law_shuffled : CalM P w K mg base 3 "_law_shuffled" (spP K mg 2 s__law_shuffled)) (c__law_least_first : CalM P w K mg base 52 "_law_least_first" (spM K mg 1 (s__law_least_first 24))) (c__law_pairs_in : CalM P w K mg base 49 "_law_pairs_in" (spM K mg 1 (s__law_pairs_in 24))) : CalM P w K mg base 53 "_law_made_order" (spP K mg 2 s__law_made_order) := by
  have S := sc__law_made_order
  refine cal_defP (k := 52) (n := 2) (m := 2) (ts := [2] ++ ([3] ++ ([]))) (N := ["pot", "most", "many", "node"]) (ps := ["pot", "most"]) (b := b__law_made_order) D S rfl rfl (by decide) (fun _ _ _ _ _ _ us hl => match us, hl with | [_, _], _ => rfl) fun f cdv A outer s H E hr hgd => ?_
  refine s_seq ?_ ?_
  ·
    exact s_set S.nd rfl (by first | exact Or.inl rfl | exact Or.inr rfl) (r_dat (d_bin op_addA ok_add (d_int) (d_callP (c__law_draw.mono (by decide)) hr hgd rfl (pv 0) (da_dat (d_var (pv 1)) (da_nil)))))
  refine s_seq ?_ ?_
  ·
    exact s_set S.nd rfl (by first | exact Or.inl rfl | exact Or.inr rfl) (r_dat (d_call (c__law_least_first.mono (by decide)) hr hgd rfl (da_dat (d_callP (c__law_node.mono (by decide)) hr hgd rfl (pv 0) (da_dat (d_callP (c__law_shuffled.mono (by decide)) hr hgd rfl (pv 0) (da_dat (d_new (n_rg1 rfl rfl g.b_list rfl g.b_range (d_var (pv 2)))) (da_nil))) (da_dat (d_callP (c__law_pick.mono (by decide)) hr hgd rfl (pv 0) (da_dat (d_new (n_lst (dd_cons (d_str) (dd_cons (d_str) (dd_nil))))) (da_nil))) (da_nil)))) (da_nil))))
  refine s_one ?_
  exact s_ret (d_tup (dd_cons (d_tup (dd_cons (d_str) (dd_cons (d_var (pv 2)) (dd_cons (d_tuple (b := false) (c := true) rfl g.b_tuple (l_new (n_sortedA (b := false) (c := true) hr.units rfl g.b_sorted (l_dat (d_call (c__law_pairs_in.mono (by decide)) hr hgd rfl (da_dat (d_var (pv 3)) (da_nil))))))) (dd_nil))))) (dd_cons (d_var (pv 3)) (dd_nil))))
def b__law_ahead : Ss := sSeq (sSet 2 (rN (nLst (dNil)))) (sSeq (sFor (iRg1 (cK (.int 4))) (gN 3) (sExt 2 (cN (nLc (iRg1 (cK (.int 4))) (gN 4) (tD (cIn false (cTup (dCons (cBin opIx (cV 1) (cV 3)) (dCons (cBin opIx (cV 1) (cV 4)) (dNil)))) (lD (cBin opIx (cV 0) (cK (.int 2)))))) (cTup (dCons (cV 3) (dCons (cV 4) (dNil)))) (([("other", 4)] : List (Str × Nat)).map (·.2)))))) (sRet (cFzA 2)))
def s__law_ahead : Fs := bodyOf b__law_ahead 3 false
theorem sc__law_ahead : FnScope ["order", "told", "found", "one", "other"] ["order", "told"] (defScope (top 70)) := ⟨rfl, rfl, rfl, by decide +kernel, rfl, by decide +kernel, by decide +kernel⟩
theorem c__law_ahead (g : G mg) (D : Df K mg "_law_ahead" (top 70)) : CalM P w K mg base 2 "_law_ahead" (spM K mg 2 s__law_ahead) := by
  have S := sc__law_ahead
  refine cal_def (k := 1) (n := 2) (m := 3) (ts := [2] ++ ([3] ++ ([]) ++ ([]))) (N := ["order", "told", "found", "one", "other"]) (ps := ["order", "told"]) (b := b__law_ahead) D S rfl rfl (fun _ _ _ _ _ _ us hl => match us, hl with | [_, _], _ => rfl) fun f cdv A outer s H E hr hgd => ?_
  refine s_seq ?_ ?_
  ·
    exact s_set S.nd rfl (by first | exact Or.inl rfl | exact Or.inr rfl) (r_new (n_lst (dd_nil)))
  refine s_seq ?_ ?_
  ·
    refine s_for (passes_of rfl) rfl (i_rg1 rfl g.b_range (d_int)) (g_name (pg_name S.nd rfl (by first | exact Or.inl rfl | exact Or.inr rfl))) ?_
    ·
      refine s_one ?_
      exact s_ext (pv 2) (d_new (n_lc rfl S.nd (own := [("other", 4)]) (ts := [4]) (i_rg1 rfl g.b_range (d_int)) (blk_of (by kernel_rfl)) (by decide) (fun _ _ _ _ _ => g_name (pg_name S.nd rfl (by first | exact Or.inl rfl | exact Or.inr rfl))) (fun _ _ _ _ _ => wf_one (dt_in (b := false) (c := true) hr.units (d_tup (dd_cons (d_ix (d_var (pv 1)) (d_var (pv 3)) (fun _ _ => rfl)) (dd_cons (d_ix (d_var (pv 1)) (d_var (pv 4)) (fun _ _ => rfl)) (dd_nil)))) (l_dat (d_ix (d_var (pv 0)) (d_int) (fun _ _ => rfl))) rfl)) (fun _ _ _ _ _ => d_tup (dd_cons (d_var (pv 3)) (dd_cons (d_var (pv 4)) (dd_nil)))))) rfl rfl rfl rfl rfl rfl
  refine s_one ?_
  exact s_ret (d_fzA (pv 2))
def b__law_is_n : Ss := sRet (cAnd (cBin opEq (cLenSetI (lD (cV 1))) (cK (.int 4))) (cBin opEq (cCall 2 s__law_ahead (aD (cV 0) (aD (cV 1) (aNil)))) (cN (nLst (dCons (cTup (dCons (cK (.int 0)) (dCons (cK (.int 2)) (dNil)))) (dCons (cTup (dCons (cK (.int 1)) (dCons (cK (.int 2)) (dNil)))) (dCons (cTup (dCons (cK (.int 1)) (dCons (cK (.int 3)) (dNil)))) (dNil))))))))
def s__law_is_n : Fs := bodyOf b__law_is_n 0 false
theorem sc__law_is_n : FnScope ["order", "told"] ["order", "told"] (defScope (top 69)) := ⟨rfl, rfl, rfl, by decide +kernel, rfl, by decide +kernel, by decide +kernel⟩
theorem c__law_is_n (g : G mg) (D : Df K mg "_law_is_n" (top 69)) (c__law_ahead : CalM P w K mg base 2 "_law_ahead" (spM K mg 2 s__law_ahead)) : CalM P w K mg base 3 "_law_is_n" (spM K mg 2 s__law_is_n) := by
  have S := sc__law_is_n
  refine cal_def (k := 2) (n := 2) (m := 0) (ts := []) (N := ["order", "told"]) (ps := ["order", "told"]) (b := b__law_is_n) D S rfl rfl (fun _ _ _ _ _ _ us hl => match us, hl with | [_, _], _ => rfl) fun f cdv A outer s H E hr hgd => ?_
  refine s_one ?_
  exact s_ret (d_and (d_cmp (op_eqA hr.units) ok_eq (d_lenSetA (b := false) (c := true) rfl rfl g.b_len rfl g.b_set (l_dat (d_var (pv 1)))) (d_int) (nomark _)) (d_one (d_cmp (op_eqA hr.units) ok_eq (d_call (c__law_ahead.mono (by decide)) hr hgd rfl (da_dat (d_var (pv 0)) (da_dat (d_var (pv 1)) (da_nil)))) (d_new (n_lst (dd_cons (d_tup (dd_cons (d_int) (dd_cons (d_int) (dd_nil)))) (dd_cons (d_tup (dd_cons (d_int) (dd_cons (d_int) (dd_nil)))) (dd_cons (d_tup (dd_cons (d_int) (dd_cons (d_int) (dd_nil)))) (dd_nil)))))) (nomark _))))
def b__law_fours : Ss := sSeq (sSet 1 (rN (nLst (dNil)))) (sSeq (sFor (lD (cBin opIx (cV 0) (cK (.int 2)))) (gTup [gN 2, gN 3]) (sFor (lD (cBin opIx (cV 0) (cK (.int 2)))) (gTup [gN 4, gN 5]) (sExt 1 (cIf (tD (cCall 2 s__law_is_n (aD (cV 0) (aD (cTup (dCons (cV 2) (dCons (cV 4) (dCons (cV 3) (dCons (cV 5) (dNil)))))) (aNil))))) (cN (nLst (dCons (cTup (dCons (cV 2) (dCons (cV 4) (dCons (cV 3) (dCons (cV 5) (dNil)))))) (dNil)))) (cN (nLst (dNil))))))) (sRet (cN (nSorted (lV 1)))))
def s__law_fours : Fs := bodyOf b__law_fours 5 false
theorem sc__law_fours : FnScope ["order", "found", "a", "c", "b", "d"] ["order"] (defScope (top 71)) := ⟨rfl, rfl, rfl, by decide +kernel, rfl, by decide +kernel, by decide +kernel⟩
theorem c__law_fours (g : G mg) (D : Df K mg "_law_fours" (top 71)) (c__law_is_n : CalM P w K mg base 3 "_law_is_n" (spM K mg 2 s__law_is_n)) : CalM P w K mg base 4 "_law_fours" (spM K mg 1 s__law_fours) := by
  have S := sc__law_fours
  refine cal_def (k := 3) (n := 1) (m := 5) (ts := [1] ++ (([2] ++ ([3] ++ ([]))) ++ (([4] ++ ([5] ++ ([]))) ++ ([])) ++ ([]))) (N := ["order", "found", "a", "c", "b", "d"]) (ps := ["order"]) (b := b__law_fours) D S rfl rfl (fun _ _ _ _ _ _ us hl => match us, hl with | [_], _ => rfl) fun f cdv A outer s H E hr hgd => ?_
  refine s_seq ?_ ?_
  ·
    exact s_set S.nd rfl (by first | exact Or.inl rfl | exact Or.inr rfl) (r_new (n_lst (dd_nil)))
  refine s_seq ?_ ?_
  ·
    refine s_for (passes_of rfl) rfl (i_seq (l_dat (d_ix (d_var (pv 0)) (d_int) (fun _ _ => rfl)))) (g_tup rfl (gs_cons (g_name (pg_name S.nd rfl (by first | exact Or.inl rfl | exact Or.inr rfl))) (gs_cons (g_name (pg_name S.nd rfl (by first | exact Or.inl rfl | exact Or.inr rfl))) (gs_nil)))) ?_
    ·
      refine s_one ?_
      refine s_for (passes_of rfl) rfl (i_seq (l_dat (d_ix (d_var (pv 0)) (d_int) (fun _ _ => rfl)))) (g_tup rfl (gs_cons (g_name (pg_name S.nd rfl (by first | exact Or.inl rfl | exact Or.inr rfl))) (gs_cons (g_name (pg_name S.nd rfl (by first | exact Or.inl rfl | exact Or.inr rfl))) (gs_nil)))) ?_
      ·
        refine s_one ?_
        exact s_ext (pv 1) (d_if (dt_val (d_call (c__law_is_n.mono (by decide)) hr hgd rfl (da_dat (d_var (pv 0)) (da_dat (d_tup (dd_cons (d_var (pv 2)) (dd_cons (d_var (pv 4)) (dd_cons (d_var (pv 3)) (dd_cons (d_var (pv 5)) (dd_nil)))))) (da_nil))))) (d_new (n_lst (dd_cons (d_tup (dd_cons (d_var (pv 2)) (dd_cons (d_var (pv 4)) (dd_cons (d_var (pv 3)) (dd_cons (d_var (pv 5)) (dd_nil)))))) (dd_nil)))) (d_new (n_lst (dd_nil)))) rfl rfl rfl rfl rfl rfl
  refine s_one ?_
  exact s_ret (d_new (n_sortedA (b := false) (c := true) hr.units rfl g.b_sorted (l_own (pv 1))))
def b__law_told : Ss := sSeq (sSet 1 (rD (cK .none))) (sSeq (sTryIs 2 1 1 s_order_making (aD (cV 0) (aNil)) "NotMade" true) (sRet (cV 1)))
def s__law_told : Fs := bodyOf b__law_told 2 false
theorem sc__law_told : FnScope ["order", "told", "e"] ["order"] (defScope (top 72)) := ⟨rfl, rfl, rfl, by decide +kernel, rfl, by decide +kernel, by decide +kernel⟩
theorem c__law_told (g : G mg) (D : Df K mg "_law_told" (top 72)) (gx : GX K mg) (c_order_making : CalE P w K mg base 31 "order_making" (spX K mg 1 s_order_making)) : CalM P w K mg base 32 "_law_told" (spM K mg 1 s__law_told) := by
  have S := sc__law_told
  refine cal_def (k := 31) (n := 1) (m := 2) (ts := [1] ++ ([1, 2] ++ ([]))) (N := ["order", "told", "e"]) (ps := ["order"]) (b := b__law_told) D S rfl rfl (fun _ _ _ _ _ _ us hl => match us, hl with | [_], _ => rfl) fun f cdv A outer s H E hr hgd => ?_
  refine s_seq ?_ ?_
  ·
    exact s_set S.nd rfl (by first | exact Or.inl rfl | exact Or.inr rfl) (r_dat (d_non))
  refine s_seq ?_ ?_
  ·
    exact s_tryIs (c_order_making.mono (by decide)) hr hgd rfl rfl S.nd rfl rfl (by decide) rfl rfl gx.i_NotMade rfl rfl rfl rfl g.b_isinstance (fun _ _ => da_dat (d_var (pv 0)) (da_nil)) (by first | exact Or.inl rfl | exact Or.inr rfl) rfl
  refine s_one ?_
  exact s_ret (d_var (pv 1))
def b__law_is_plain (self : Fs) : Ss := sSeq (sIf (tD (cBin opEq (cBin opIx (cV 0) (cK (.int 0))) (cK (.str "work")))) (sRet (cK (.bool true))) (sNext)) (sRet (cAnd (cBin opGt (cLen (lD (cBin opIx (cV 0) (cK (.int 1))))) (cK (.int 1))) (cBin opEq (cN (nLc (lD (cBin opIx (cV 0) (cK (.int 1)))) (gN 1) (tOr (tD (cBin opEq (cBin opIx (cV 1) (cK (.int 0))) (cBin opIx (cV 0) (cK (.int 0))))) (tNot (tD (cCall 1 self (aD (cV 1) (aNil)))))) (cV 1) (([("part", 1)] : List (Str × Nat)).map (·.2)))) (cN (nLst (dNil))))))
def s__law_is_plain : Nat → Fs
  | 0 => fun _ => .stuck
  | n + 1 => bodyOf (b__law_is_plain (s__law_is_plain n)) 1 false
theorem sc__law_is_plain : FnScope ["node", "part"] ["node"] (defScope (top 74)) := ⟨rfl, rfl, rfl, by decide +kernel, rfl, by decide +kernel, by decide +kernel⟩
theorem c__law_is_plain (g : G mg) (D : Df K mg "_law_is_plain" (top 74)) : ∀ n : Nat, CalM P w K mg base (1 + n) "_law_is_plain" (spM K mg 1 (s__law_is_plain n))
  | 0 => cal_zero (n := 1) (ps := ["node"]) D rfl (fun _ _ _ _ _ _ us hl => match us, hl with | [_], _ => rfl)
  | n + 1 => by
    have ih := c__law_is_plain g D  n
    have S := sc__law_is_plain
    have KK : ∀ {j : Nat}, j ≤ 1 → j ≤ 1 + n := fun h => Nat.le_trans h (Nat.le_add_right _ _)
    refine cal_def (n := 1) (m := 1) (ts := [] ++ ([]) ++ ([])) (N := ["node", "part"]) (ps := ["node"]) (b := b__law_is_plain (s__law_is_plain n)) D S rfl rfl (fun _ _ _ _ _ _ us hl => match us, hl with | [_], _ => rfl) fun f cdv A outer s H E hr hgd => ?_
    refine s_seq ?_ ?_
    ·
      refine s_if (dt_cmp (op_eqA hr.units) ok_eq (d_ix (d_var (pv 0)) (d_int) (fun _ _ => rfl)) (d_str) (nomark _)) ?_ ?_
      ·
        refine s_one ?_
        exact s_ret (d_bl)
      ·
        exact s_nil
    refine s_one ?_
    exact s_ret (d_and (d_cmp op_gt ok_gt (d_len (b := false) (c := true) rfl g.b_len (l_dat (d_ix (d_var (pv 0)) (d_int) (fun _ _ => rfl)))) (d_int) (nomark _)) (d_one (d_cmp (op_eqA hr.units) ok_eq (d_new (n_lc rfl S.nd (own := [("part", 1)]) (ts := [1]) (i_seq (l_dat (d_ix (d_var (pv 0)) (d_int) (fun _ _ => rfl)))) (blk_of (by kernel_rfl)) (by decide) (fun _ _ _ _ _ => g_name (pg_name S.nd rfl (by first | exact Or.inl rfl | exact Or.inr rfl))) (fun _ _ _ _ _ => wf_one (dt_bool (dw_or (dt_cmp (op_eqA hr.units) ok_eq (d_ix (d_var (pv 1)) (d_int) (fun _ _ => rfl)) (d_ix (d_var (pv 0)) (d_int) (fun _ _ => rfl)) (nomark _)) (dw_or1 (dt_not (dt_val (d_call ih hr hgd rfl (da_dat (d_var (pv 1)) (da_nil))))))))) (fun _ _ _ _ _ => d_var (pv 1)))) (d_new (n_lst (dd_nil))) (nomark _))))
def b__law_is_making : Ss := sRet (cAnd (cBin opEq (cTuple (nSorted (lD (cCall 1 (s__law_pairs_in 24) (aD (cV 1) (aNil)))))) (cBin opIx (cV 0) (cK (.int 2)))) (cAnd (cBin opEq (cN (nSorted (lD (cCall 1 (s__law_works_in 24) (aD (cV 1) (aNil)))))) (cN (nRg1 (cBin opIx (cV 0) (cK (.int 1)))))) (cAnd (cBin opEq (cCall 1 (s__law_least_first 24) (aD (cV 1) (aNil))) (cV 1)) (cCall 1 (s__law_is_plain 24) (aD (cV 1) (aNil))))))
def s__law_is_making : Fs := bodyOf b__law_is_making 0 false
theorem sc__law_is_making : FnScope ["order", "node"] ["order", "node"] (defScope (top 73)) := ⟨rfl, rfl, rfl, by decide +kernel, rfl, by decide +kernel, by decide +kernel⟩
theorem c__law_is_making (g : G mg) (D : Df K mg "_law_is_making" (top 73)) (c__law_pairs_in : CalM P w K mg base 49 "_law_pairs_in" (spM K mg 1 (s__law_pairs_in 24))) (c__law_works_in : CalM P w K mg base 25 "_law_works_in" (spM K mg 1 (s__law_works_in 24))) (c__law_least_first : CalM P w K mg base 52 "_law_least_first" (spM K mg 1 (s__law_least_first 24))) (c__law_is_plain : CalM P w K mg base 25 "_law_is_plain" (spM K mg 1 (s__law_is_plain 24))) : CalM P w K mg base 53 "_law_is_making" (spM K mg 2 s__law_is_making) := by
  have S := sc__law_is_making
  refine cal_def (k := 52) (n := 2) (m := 0) (ts := []) (N := ["order", "node"]) (ps := ["order", "node"]) (b := b__law_is_making) D S rfl rfl (fun _ _ _ _ _ _ us hl => match us, hl with | [_, _], _ => rfl) fun f cdv A outer s H E hr hgd => ?_
  refine s_one ?_
  exact s_ret (d_and (d_cmp (op_eqA hr.units) ok_eq (d_tuple (b := false) (c := true) rfl g.b_tuple (l_new (n_sortedA (b := false) (c := true) hr.units rfl g.b_sorted (l_dat (d_call (c__law_pairs_in.mono (by decide)) hr hgd rfl (da_dat (d_var (pv 1)) (da_nil))))))) (d_ix (d_var (pv 0)) (d_int) (fun _ _ => rfl)) (nomark _)) (d_and (d_cmp (op_eqA hr.units) ok_eq (d_new (n_sortedA (b := false) (c := true) hr.units rfl g.b_sorted (l_dat (d_call (c__law_works_in.mono (by decide)) hr hgd rfl (da_dat (d_var (pv 1)) (da_nil)))))) (d_new (n_rg1 rfl rfl g.b_list rfl g.b_range (d_ix (d_var (pv 0)) (d_int) (fun _ _ => rfl)))) (nomark _)) (d_and (d_cmp (op_eqA hr.units) ok_eq (d_call (c__law_least_first.mono (by decide)) hr hgd rfl (da_dat (d_var (pv 1)) (da_nil))) (d_var (pv 1)) (nomark _)) (d_one (d_call (c__law_is_plain.mono (by decide)) hr hgd rfl (da_dat (d_var (pv 1)) (da_nil)))))))
def b__law_right : Ss := sSeq (sPar3 2 3 4 (rD (cCall 1 s__law_fours (aD (cV 1) (aNil)))) (rD (cCall 1 s__law_told (aD (cV 1) (aNil)))) (rD (cCall 1 s_order_paper (aD (cV 1) (aNil))))) (sSeq (sIf (tOr (tD (cBin opNe (cRepr (cN (nLst (dCons (cCall 1 s_ns (aD (cV 1) (aNil))) (dCons (cCallK 1 s_ns false (aD (cV 1) (aNil))) (dNil)))))) (cRepr (cN (nLst (dCons (cV 2) (dCons (cV 2) (dNil)))))))) (tD (cBin opNe (cBin opIx (cV 4) (cK (.int 0))) (cIf (tD (cBin opEq (cV 2) (cN (nLst (dNil))))) (cK (.str "made")) (cK (.str "n")))))) (sRet (cK (.bool false))) (sNext)) (sSeq (sIf (tOr (tD (cBin (opIsB true) (cCall 2 s_is_order_paper (aD (cV 1) (aD (cV 4) (aNil)))) (cK (.bool true)))) (tD (cBin (opIsB true) (cCallK 2 s_is_order_paper true (aD (cCallK 1 s_order_paper false (aD (cV 1) (aNil))) (aD (cV 1) (aNil)))) (cK (.bool true))))) (sRet (cK (.bool false))) (sNext)) (sSeq (sIf (tD (cBin opNe (cV 2) (cN (nLst (dNil))))) (sRet (cAnd (cBin (opIsB false) (cV 3) (cK (.bool true))) (cAnd (cIn false (cBin opIx (cV 4) (cK (.int 1))) (lD (cV 2))) (cAnd (cBin (opIsB false) (cCall 2 s_is_n (aD (cV 1) (aD (cBin opIx (cV 4) (cK (.int 1))) (aNil)))) (cK (.bool true))) (cBin opEq (cN (nLc (lD (cV 2)) (gN 5) (tD (cBin (opIsB true) (cCall 2 s_is_order_paper (aD (cV 1) (aD (cTup (dCons (cK (.str "n")) (dCons (cV 5) (dNil)))) (aNil)))) (cK (.bool true)))) (cV 5) (([("told", 5)] : List (Str × Nat)).map (·.2)))) (cN (nLst (dNil)))))))) (sNext)) (sSeq (sIf (tOr (tNot (tD (cCall 2 s__law_is_making (aD (cV 1) (aD (cV 3) (aNil)))))) (tOr (tD (cBin opNe (cCallK 1 s_order_making false (aD (cV 1) (aNil))) (cV 3))) (tD (cBin opNe (cV 4) (cTup (dCons (cK (.str "made")) (dCons (cV 3) (dNil)))))))) (sRet (cK (.bool false))) (sNext)) (sRet (cAnd (cBin (opIsB false) (cCall 2 s_is_order_making (aD (cV 1) (aD (cV 3) (aNil)))) (cK (.bool true))) (cBin opEq (cRepr (cN (nLst (dCons (cCall 1 s_order_by_making (aD (cV 3) (aNil))) (dCons (cCallK 1 s_order_by_making false (aD (cV 3) (aNil))) (dNil)))))) (cRepr (cN (nLst (dCons (cV 1) (dCons (cV 1) (dNil)))))))))))))
def s__law_right : Fs := bodyOf b__law_right 4 true
theorem sc__law_right : FnScope ["pot", "order", "some", "node", "paper", "told"] ["pot", "order"] (defScope (top 75)) := ⟨rfl, rfl, rfl, by decide +kernel, rfl, by decide +kernel, by decide +kernel⟩
theorem c__law_right (g : G mg) (D : Df K mg "_law_right" (top 75)) (c__law_fours : CalM P w K mg base 4 "_law_fours" (spM K mg 1 s__law_fours)) (c__law_told : CalM P w K mg base 32 "_law_told" (spM K mg 1 s__law_told)) (c_order_paper : CalM P w K mg base 32 "order_paper" (spM K mg 1 s_order_paper)) (c_ns : CalM P w K mg base 8 "ns" (spM K mg 1 s_ns)) (c_is_order_paper : CalM P w K mg base 54 "is_order_paper" (spM K mg 2 s_is_order_paper)) (c_is_n : CalM P w K mg base 8 "is_n" (spM K mg 2 s_is_n)) (c__law_is_making : CalM P w K mg base 53 "_law_is_making" (spM K mg 2 s__law_is_making)) (c_is_order_making : CalM P w K mg base 53 "is_order_making" (spM K mg 2 s_is_order_making)) (c_order_by_making : CalM P w K mg base 52 "order_by_making" (spM K mg 1 s_order_by_making)) (ck_ns : CalK P w K mg base 8 "ns" ["order"] false (spM K mg 1 s_ns)) (ck_is_order_paper : CalK P w K mg base 54 "is_order_paper" ["value", "order"] true (spM K mg 2 s_is_order_paper)) (ck_order_paper : CalK P w K mg base 32 "order_paper" ["order"] false (spM K mg 1 s_order_paper)) (ck_order_making : CalK P w K mg base 31 "order_making" ["order"] false (spM K mg 1 s_order_making)) (ck_order_by_making : CalK P w K mg base 52 "order_by_making" ["making"] false (spM K mg 1 s_order_by_making)) : CalM P w K mg base 55 "_law_right" (spP K mg 2 s__law_right) := by
  have S := sc__law_right
  refine cal_defP (k := 54) (n := 2) (m := 4) (ts := [2, 3, 4] ++ ([] ++ ([]) ++ ([] ++ ([]) ++ ([] ++ ([]) ++ ([] ++ ([]) ++ ([])))))) (N := ["pot", "order", "some", "node", "paper", "told"]) (ps := ["pot", "order"]) (b := b__law_right) D S rfl rfl (by decide) (fun _ _ _ _ _ _ us hl => match us, hl with | [_, _], _ => rfl) fun f cdv A outer s H E hr hgd => ?_
  refine s_seq ?_ ?_
  ·
    first
      | exact s_par3 rfl S.nd rfl rfl rfl (by decide) (by decide) (by decide) rfl rfl rfl (r_dat (d_call (c__law_fours.mono (by decide)) hr hgd rfl (da_dat (d_var (pv 1)) (da_nil)))) (r_dat (d_call (c__law_told.mono (by decide)) hr hgd rfl (da_dat (d_var (pv 1)) (da_nil)))) (r_dat (d_call (c_order_paper.mono (by decide)) hr hgd rfl (da_dat (d_var (pv 1)) (da_nil)))) rfl
      | exact s_par3C rfl S.nd rfl rfl rfl (by first | exact Or.inl rfl | exact Or.inr rfl) (by first | exact Or.inl rfl | exact Or.inr rfl) (by first | exact Or.inl rfl | exact Or.inr rfl) (r_dat (d_call (c__law_fours.mono (by decide)) hr hgd rfl (da_dat (d_var (pv 1)) (da_nil)))) (r_dat (d_call (c__law_told.mono (by decide)) hr hgd rfl (da_dat (d_var (pv 1)) (da_nil)))) (r_dat (d_call (c_order_paper.mono (by decide)) hr hgd rfl (da_dat (d_var (pv 1)) (da_nil)))) rfl rfl rfl
  refine s_seq ?_ ?_
  ·
    refine s_if (dt_bool (dw_or (dt_cmp (op_neA hr.units) ok_ne (d_repr hgd (Room.wide hr) rfl g.b_repr (d_new (n_lst (dd_cons (d_call (c_ns.mono (by decide)) hr hgd rfl (da_dat (d_var (pv 1)) (da_nil))) (dd_cons (d_callK (ck_ns.mono (by decide)) hr hgd rfl rfl (ka_dat (d_var (pv 1)) (ka_nil))) (dd_nil)))))) (d_repr hgd (Room.wide hr) rfl g.b_repr (d_new (n_lst (dd_cons (d_var (pv 2)) (dd_cons (d_var (pv 2)) (dd_nil)))))) (nomark _)) (dw_or1 (dt_cmp (op_neA hr.units) ok_ne (d_ix (d_var (pv 4)) (d_int) (fun _ _ => rfl)) (d_if (dt_cmp (op_eqA hr.units) ok_eq (d_var (pv 2)) (d_new (n_lst (dd_nil))) (nomark _)) (d_str) (d_str)) (nomark _))))) ?_ ?_
    ·
      refine s_one ?_
      exact s_ret (d_bl)
    ·
      exact s_nil
  refine s_seq ?_ ?_
  ·
    refine s_if (dt_bool (dw_or (dt_cmp op_isnotB ok_isnotB (d_call (c_is_order_paper.mono (by decide)) hr hgd rfl (da_dat (d_var (pv 1)) (da_dat (d_var (pv 4)) (da_nil)))) (d_bl) (nomark _)) (dw_or1 (dt_cmp op_isnotB ok_isnotB (d_callK (ck_is_order_paper.mono (by decide)) hr hgd rfl rfl (ka_dat (d_callK (ck_order_paper.mono (by decide)) hr hgd rfl rfl (ka_dat (d_var (pv 1)) (ka_nil))) (ka_dat (d_var (pv 1)) (ka_nil)))) (d_bl) (nomark _))))) ?_ ?_
    ·
      refine s_one ?_
      exact s_ret (d_bl)
    ·
      exact s_nil
  refine s_seq ?_ ?_
  ·
    refine s_if (dt_cmp (op_neA hr.units) ok_ne (d_var (pv 2)) (d_new (n_lst (dd_nil))) (nomark _)) ?_ ?_
    ·
      refine s_one ?_
      exact s_ret (d_and (d_cmp op_isB ok_isB (d_var (pv 3)) (d_bl) (nomark _)) (d_and (d_in (b := false) (c := true) hr.units (d_ix (d_var (pv 4)) (d_int) (fun _ _ => rfl)) (l_dat (d_var (pv 2))) rfl) (d_and (d_cmp op_isB ok_isB (d_call (c_is_n.mono (by decide)) hr hgd rfl (da_dat (d_var (pv 1)) (da_dat (d_ix (d_var (pv 4)) (d_int) (fun _ _ => rfl)) (da_nil)))) (d_bl) (nomark _)) (d_one (d_cmp (op_eqA hr.units) ok_eq (d_new (n_lc rfl S.nd (own := [("told", 5)]) (ts := [5]) (i_seq (l_dat (d_var (pv 2)))) (blk_of (by kernel_rfl)) (by decide) (fun _ _ _ _ _ => g_name (pg_name S.nd rfl (by first | exact Or.inl rfl | exact Or.inr rfl))) (fun _ _ _ _ _ => wf_one (dt_cmp op_isnotB ok_isnotB (d_call (c_is_order_paper.mono (by decide)) hr hgd rfl (da_dat (d_var (pv 1)) (da_dat (d_tup (dd_cons (d_str) (dd_cons (d_var (pv 5)) (dd_nil)))) (da_nil)))) (d_bl) (nomark _))) (fun _ _ _ _ _ => d_var (pv 5)))) (d_new (n_lst (dd_nil))) (nomark _))))))
    ·
      exact s_nil
  refine s_seq ?_ ?_
  ·
    refine s_if (dt_bool (dw_or (dt_not (dt_val (d_call (c__law_is_making.mono (by decide)) hr hgd rfl (da_dat (d_var (pv 1)) (da_dat (d_var (pv 3)) (da_nil)))))) (dw_or (dt_cmp (op_neA hr.units) ok_ne (d_callK (ck_order_making.mono (by decide)) hr hgd rfl rfl (ka_dat (d_var (pv 1)) (ka_nil))) (d_var (pv 3)) (nomark _)) (dw_or1 (dt_cmp (op_neA hr.units) ok_ne (d_var (pv 4)) (d_tup (dd_cons (d_str) (dd_cons (d_var (pv 3)) (dd_nil)))) (nomark _)))))) ?_ ?_
    ·
      refine s_one ?_
      exact s_ret (d_bl)
    ·
      exact s_nil
  refine s_one ?_
  exact s_ret (d_and (d_cmp op_isB ok_isB (d_call (c_is_order_making.mono (by decide)) hr hgd rfl (da_dat (d_var (pv 1)) (da_dat (d_var (pv 3)) (da_nil)))) (d_bl) (nomark _)) (d_one (d_cmp (op_eqA hr.units) ok_eq (d_repr hgd (Room.wide hr) rfl g.b_repr (d_new (n_lst (dd_cons (d_call (c_order_by_making.mono (by decide)) hr hgd rfl (da_dat (d_var (pv 3)) (da_nil))) (dd_cons (d_callK (ck_order_by_making.mono (by decide)) hr hgd rfl rfl (ka_dat (d_var (pv 3)) (ka_nil))) (dd_nil)))))) (d_repr hgd (Room.wide hr) rfl g.b_repr (d_new (n_lst (dd_cons (d_var (pv 1)) (dd_cons (d_var (pv 1)) (dd_nil)))))) (nomark _))))
def b_law : Ss := sSeq (sFor (lD (cTup (dCons (cK (.int 0)) (dCons (cK (.int 1)) (dNil))))) (gN 1) (sSeq (sSet 2 (rN (nCall 2 s__law_pot (aS 0 (aD (cV 1) (aNil)))))) (sSeq (sAsg (cCallP 1 s__law_made_order 2 (aD (cK (.int 8)) (aNil))) (gTup [gN 3, gN 4])) (sIf (tOr (tNot (tD (cCallP 1 s__law_right 2 (aD (cV 3) (aNil))))) (tOr (tD (cBin opNe (cCall 1 s_order_making (aD (cV 3) (aNil))) (cV 4))) (tOr (tNot (tD (cCallP 1 s__law_right 2 (aD (cBin opIx (cCallP 2 s__law_order 2 (aD (cK (.int 7)) (aD (cK (.int 2)) (aNil)))) (cK (.int 0))) (aNil))))) (tNot (tD (cCallP 1 s__law_right 2 (aD (cBin opIx (cCallP 2 s__law_order 2 (aD (cK (.int 8)) (aD (cK (.int 4)) (aNil)))) (cK (.int 0))) (aNil)))))))) (sRet (cK (.bool false))) (sNext))))) (sRet (cK (.bool true)))
def s_law : Fs := bodyOf b_law 4 false
theorem sc_law : FnScope ["script", "k", "pot", "order", "node"] ["script"] (defScope (top 76)) := ⟨rfl, rfl, rfl, by decide +kernel, rfl, by decide +kernel, by decide +kernel⟩
theorem c_law (g : G mg) (D : Df K mg "law" (top 76)) (c__law_pot : CalM P w K mg base 2 "_law_pot" (spN K mg 2 s__law_pot)) (c__law_made_order : CalM P w K mg base 53 "_law_made_order" (spP K mg 2 s__law_made_order)) (c__law_right : CalM P w K mg base 55 "_law_right" (spP K mg 2 s__law_right)) (c_order_making : CalE P w K mg base 31 "order_making" (spX K mg 1 s_order_making)) (c__law_order : CalM P w K mg base 4 "_law_order" (spP K mg 3 s__law_order)) : CalM P w K mg base 56 "law" (spM K mg 1 s_law) := by
  have S := sc_law
  refine cal_def (k := 55) (n := 1) (m := 4) (ts := [1] ++ ([2] ++ ([3] ++ ([4] ++ ([])) ++ ([] ++ ([])))) ++ ([])) (N := ["script", "k", "pot", "order", "node"]) (ps := ["script"]) (b := b_law) D S rfl rfl (fun _ _ _ _ _ _ us hl => match us, hl with | [_], _ => rfl) fun f cdv A outer s H E hr hgd => ?_
  refine s_seq ?_ ?_
  ·
    refine s_for (passes_of rfl) rfl (i_seq (l_dat (d_tup (dd_cons (d_int) (dd_cons (d_int) (dd_nil)))))) (g_name (pg_name S.nd rfl (by first | exact Or.inl rfl | exact Or.inr rfl))) ?_
    ·
      refine s_seq ?_ ?_
      ·
        exact s_set S.nd rfl (by first | exact Or.inl rfl | exact Or.inr rfl) (r_new (n_call (c__law_pot.mono (by decide)) hr hgd rfl (da_scr (pv 0) (da_dat (d_var (pv 1)) (da_nil)))))
      refine s_seq ?_ ?_
      ·
        exact s_asg (d_callP (c__law_made_order.mono (by decide)) hr hgd rfl (pv 2) (da_dat (d_int) (da_nil))) (g_tup rfl (gs_cons (g_name (pg_name S.nd rfl (by first | exact Or.inl rfl | exact Or.inr rfl))) (gs_cons (g_name (pg_name S.nd rfl (by first | exact Or.inl rfl | exact Or.inr rfl))) (gs_nil))))
      refine s_one ?_
      refine s_if (dt_bool (dw_or (dt_not (dt_val (d_callP (c__law_right.mono (by decide)) hr hgd rfl (pv 2) (da_dat (d_var (pv 3)) (da_nil))))) (dw_or (dt_cmp (op_neA hr.units) ok_ne (d_call (c_order_making.mono (by decide)).toM hr hgd rfl (da_dat (d_var (pv 3)) (da_nil))) (d_var (pv 4)) (nomark _)) (dw_or (dt_not (dt_val (d_callP (c__law_right.mono (by decide)) hr hgd rfl (pv 2) (da_dat (d_ix (d_callP (c__law_order.mono (by decide)) hr hgd rfl (pv 2) (da_dat (d_int) (da_dat (d_int) (da_nil)))) (d_int) (fun _ _ => rfl)) (da_nil))))) (dw_or1 (dt_not (dt_val (d_callP (c__law_right.mono (by decide)) hr hgd rfl (pv 2) (da_dat (d_ix (d_callP (c__law_order.mono (by decide)) hr hgd rfl (pv 2) (da_dat (d_int) (da_dat (d_int) (da_nil)))) (d_int) (fun _ _ => rfl)) (da_nil)))))))))) ?_ ?_
      ·
        refine s_one ?_
        exact s_ret (d_bl)
      ·
        exact s_nil
  refine s_one ?_
  exact s_ret (d_bl)
theorem fm_law (g : G mg) (c__law_pot : CalM P w K mg base 2 "_law_pot" (spN K mg 2 s__law_pot)) (c__law_made_order : CalM P w K mg base 53 "_law_made_order" (spP K mg 2 s__law_made_order)) (c__law_right : CalM P w K mg base 55 "_law_right" (spP K mg 2 s__law_right)) (c_order_making : CalE P w K mg base 31 "order_making" (spX K mg 1 s_order_making)) (c__law_order : CalM P w K mg base 4 "_law_order" (spP K mg 3 s__law_order)) {f : Addr} {fd : FuncData} (F : FnP K "law" (top 76) f fd) : FnM P w K mg base 56 f fd ["script"] (spM K mg 1 s_law) := by
  have S := sc_law
  refine ok_def (k := 55) (n := 1) (m := 4) (ts := [1] ++ ([2] ++ ([3] ++ ([4] ++ ([])) ++ ([] ++ ([])))) ++ ([])) (N := ["script", "k", "pot", "order", "node"]) (ps := ["script"]) (b := b_law) F S rfl rfl fun cdv A outer s H E hr hgd => ?_
  refine s_seq ?_ ?_
  ·
    refine s_for (passes_of rfl) rfl (i_seq (l_dat (d_tup (dd_cons (d_int) (dd_cons (d_int) (dd_nil)))))) (g_name (pg_name S.nd rfl (by first | exact Or.inl rfl | exact Or.inr rfl))) ?_
    ·
      refine s_seq ?_ ?_
      ·
        exact s_set S.nd rfl (by first | exact Or.inl rfl | exact Or.inr rfl) (r_new (n_call (c__law_pot.mono (by decide)) hr hgd rfl (da_scr (pv 0) (da_dat (d_var (pv 1)) (da_nil)))))
      refine s_seq ?_ ?_
      ·
        exact s_asg (d_callP (c__law_made_order.mono (by decide)) hr hgd rfl (pv 2) (da_dat (d_int) (da_nil))) (g_tup rfl (gs_cons (g_name (pg_name S.nd rfl (by first | exact Or.inl rfl | exact Or.inr rfl))) (gs_cons (g_name (pg_name S.nd rfl (by first | exact Or.inl rfl | exact Or.inr rfl))) (gs_nil))))
      refine s_one ?_
      refine s_if (dt_bool (dw_or (dt_not (dt_val (d_callP (c__law_right.mono (by decide)) hr hgd rfl (pv 2) (da_dat (d_var (pv 3)) (da_nil))))) (dw_or (dt_cmp (op_neA hr.units) ok_ne (d_call (c_order_making.mono (by decide)).toM hr hgd rfl (da_dat (d_var (pv 3)) (da_nil))) (d_var (pv 4)) (nomark _)) (dw_or (dt_not (dt_val (d_callP (c__law_right.mono (by decide)) hr hgd rfl (pv 2) (da_dat (d_ix (d_callP (c__law_order.mono (by decide)) hr hgd rfl (pv 2) (da_dat (d_int) (da_dat (d_int) (da_nil)))) (d_int) (fun _ _ => rfl)) (da_nil))))) (dw_or1 (dt_not (dt_val (d_callP (c__law_right.mono (by decide)) hr hgd rfl (pv 2) (da_dat (d_ix (d_callP (c__law_order.mono (by decide)) hr hgd rfl (pv 2) (da_dat (d_int) (da_dat (d_int) (da_nil)))) (d_int) (fun _ _ => rfl)) (da_nil)))))))))) ?_ ?_
      ·
        refine s_one ?_
        exact s_ret (d_bl)
      ·
        exact s_nil
  refine s_one ?_
  exact s_ret (d_bl)
end
end Mo.K70
end
section
set_option autoImplicit false
set_option linter.all false
/-! MV: the plain functions of MSem, evaluated: rules for loops and comprehensions, operators on data of known form. -/
namespace Mo
open PySem

/-! ### what stands in a slot -/
@[simp] theorem cK_ap (d : PyData) (ρ : En) : cK d ρ = .ok d ρ := rfl
@[simp] theorem aNil_ap (ρ : En) : aNil ρ = .ok [] ρ := rfl
@[simp] theorem dNil_ap (ρ : En) : dNil ρ = .ok [] ρ := rfl
@[simp] theorem sNext_ap (ρ : En) : sNext ρ = .ok .nx ρ := rfl
@[simp] theorem sStuck_ap (ρ : En) : sStuck ρ = .stuck := rfl
@[simp] theorem tYes_ap (ρ : En) : tYes ρ = .ok true ρ := rfl
@[simp] theorem oNone_ap (ρ : En) : oNone ρ = .ok none ρ := rfl
@[simp] theorem boolOf_b (b : Bool) : boolOf (.bool b) = some b := rfl
@[simp] theorem seqOf_l (xs : List PyData) : seqOf (.list xs) = some xs := rfl
@[simp] theorem seqOf_t (xs : List PyData) : seqOf (.tuple xs) = some xs := rfl
@[simp] theorem lstOf_l (xs : List PyData) : lstOf (.list xs) = some xs := rfl
@[simp] theorem isNone_n : isNone .none = true := rfl
@[simp] theorem isNone_t (xs : List PyData) : isNone (.tuple xs) = false := rfl
@[simp] theorem isNone_l (xs : List PyData) : isNone (.list xs) = false := rfl
@[simp] theorem isNone_b (b : Bool) : isNone (.bool b) = false := rfl
@[simp] theorem isNone_i (i : Int) : isNone (.int i) = false := rfl
@[simp] theorem cV_ap (i : Nat) (ρ : En) : cV i ρ = match ρ[i]? with | some (some (.dat d)) => .ok d ρ | _ => .stuck := rfl
@[simp] theorem lV_ap (i : Nat) (ρ : En) : lV i ρ = match ρ[i]? with | some (some (.own xs)) => .ok xs ρ | _ => .stuck := rfl
@[simp] theorem lS_ap (i : Nat) (ρ : En) : lS i ρ = match ρ[i]? with | some (some (.scr ns)) => .ok (ns.map .int) ρ | _ => .stuck := rfl
@[simp] theorem cFz_ap (i : Nat) (ρ : En) : cFz i ρ = match ρ[i]? with | some (some (.own xs)) => .ok (.list xs) (ρ.set i (some (.dat (.list xs)))) | _ => .stuck := rfl
@[simp] theorem cFzA_ap (i : Nat) (ρ : En) : cFzA i ρ = match ρ[i]? with
  | some (some (.dat d)) => .ok d ρ
  | _ => cFz i ρ := rfl
@[simp] theorem cNilL_ap (neg : Bool) (l : Ls) (ρ : En) : cNilL neg l ρ = (l ρ).bind fun xs ρ => if (PyData.list xs).canLay0 = true then .ok (.bool (xs.isEmpty != neg)) ρ else .stuck := rfl
@[simp] theorem lD_ap (f : Ex) (ρ : En) : lD f ρ = (f ρ).bind fun d ρ => lift (seqOf d) ρ := rfl
@[simp] theorem lDl_ap (f : Ex) (ρ : En) : lDl f ρ = (f ρ).bind fun d ρ => lift (lstOf d) ρ := rfl
@[simp] theorem cN_ap (n : Ls) (ρ : En) : cN n ρ = (n ρ).bind fun xs ρ => .ok (.list xs) ρ := rfl
@[simp] theorem cBin_ap (op : Op2) (f g : Ex) (ρ : En) : cBin op f g ρ = (f ρ).bind fun a ρ => (g ρ).bind fun b ρ => lift (op a b) ρ := rfl
@[simp] theorem cUn_ap (op : PyData → Option PyData) (f : Ex) (ρ : En) : cUn op f ρ = (f ρ).bind fun a ρ => lift (op a) ρ := rfl
@[simp] theorem cAnd_ap (f g : Ex) (ρ : En) : cAnd f g ρ = (f ρ).bind fun a ρ => (lift (boolOf a) ρ).bind fun b ρ => if b = true then g ρ else .ok (.bool false) ρ := rfl
@[simp] theorem cOr_ap (f g : Ex) (ρ : En) : cOr f g ρ = (f ρ).bind fun a ρ => (lift (boolOf a) ρ).bind fun b ρ => if b = true then .ok (.bool true) ρ else g ρ := rfl
@[simp] theorem cNot_ap (f : Ex) (ρ : En) : cNot f ρ = (f ρ).bind fun a ρ => (lift (boolOf a) ρ).bind fun b ρ => .ok (.bool (!b)) ρ := rfl
@[simp] theorem tD_ap (f : Ex) (ρ : En) : tD f ρ = (f ρ).bind fun a ρ => lift (boolOf a) ρ := rfl
@[simp] theorem tAnd_ap (s t : Ts) (ρ : En) : tAnd s t ρ = (s ρ).bind fun b ρ => if b = true then t ρ else .ok false ρ := rfl
@[simp] theorem tOr_ap (s t : Ts) (ρ : En) : tOr s t ρ = (s ρ).bind fun b ρ => if b = true then .ok true ρ else t ρ := rfl
@[simp] theorem tNot_ap (t : Ts) (ρ : En) : tNot t ρ = (t ρ).bind fun b ρ => .ok (!b) ρ := rfl
@[simp] theorem cIf_ap (t : Ts) (f g : Ex) (ρ : En) : cIf t f g ρ = (t ρ).bind fun b ρ => if b = true then f ρ else g ρ := rfl
@[simp] theorem aD_ap (f : Ex) (r : As) (ρ : En) : aD f r ρ = (f ρ).bind fun d ρ => (r ρ).bind fun s ρ => .ok (.dat d :: s) ρ := rfl
@[simp] theorem aF_ap (x : Str) (r : As) (ρ : En) : aF x r ρ = (r ρ).bind fun s ρ => .ok (.fnv x :: s) ρ := rfl
@[simp] theorem dCons_ap (f : Ex) (r : Ls) (ρ : En) : dCons f r ρ = (f ρ).bind fun d ρ => (r ρ).bind fun s ρ => .ok (d :: s) ρ := rfl
@[simp] theorem cTup_ap (r : Ls) (ρ : En) : cTup r ρ = (r ρ).bind fun ds ρ => if lenOk ds then .ok (.tuple ds) ρ else .stuck := rfl
@[simp] theorem nLst_ap (r : Ls) (ρ : En) : nLst r ρ = (r ρ).bind fun ds ρ => if lenOk ds then .ok ds ρ else .stuck := rfl
@[simp] theorem cLen_ap (l : Ls) (ρ : En) : cLen l ρ = (l ρ).bind fun xs ρ => .ok (.int xs.length) ρ := rfl
@[simp] theorem cTuple_ap (l : Ls) (ρ : En) : cTuple l ρ = (l ρ).bind fun xs ρ => .ok (.tuple xs) ρ := rfl
@[simp] theorem nList_ap (l : Ls) (ρ : En) : nList l ρ = l ρ := rfl
@[simp] theorem oSome_ap (f : Ex) (ρ : En) : oSome f ρ = (f ρ).bind fun d ρ => match d with | .int i => .ok (some i) ρ | _ => .stuck := rfl
@[simp] theorem cSl_ap (f : Ex) (lo hi : Os) (ρ : En) : cSl f lo hi ρ = (f ρ).bind fun d ρ => (lo ρ).bind fun a ρ => (hi ρ).bind fun b ρ => match d with
  | .list xs => .ok (.list (cut xs a b)) ρ
  | .tuple xs => .ok (.tuple (cut xs a b)) ρ
  | _ => .stuck := rfl
theorem cAll_ap (l : Ls) (ρ : En) : cAll l ρ = (l ρ).bind fun xs ρ => lift ((boolsOf xs).map fun bs => .bool (bs.all id)) ρ := rfl
theorem cAny_ap (l : Ls) (ρ : En) : cAny l ρ = (l ρ).bind fun xs ρ => lift ((boolsOf xs).map fun bs => .bool (bs.any id)) ρ := rfl
@[simp] theorem cMin_ap (l : Ls) (ρ : En) : cMin l ρ = (l ρ).bind fun xs ρ => lift (minOf xs) ρ := rfl
@[simp] theorem cIn_ap (neg : Bool) (f : Ex) (l : Ls) (ρ : En) : cIn neg f l ρ = (f ρ).bind fun d ρ => (l ρ).bind fun xs ρ => lift ((inL d xs).map fun b => .bool (b != neg)) ρ := rfl
@[simp] theorem nSorted_ap (l : Ls) (ρ : En) : nSorted l ρ = (l ρ).bind fun xs ρ => if sortOk xs then .ok (sortD xs) ρ else .stuck := rfl
@[simp] theorem iZipD_ap (f g : Ex) (ρ : En) : iZipD f g ρ = (f ρ).bind fun a ρ => (g ρ).bind fun b ρ => match a, b with
  | .list xs, .list ys => .ok (zipT xs ys) ρ
  | .tuple xs, .tuple ys => .ok (zipT xs ys) ρ
  | _, _ => .stuck := rfl
@[simp] theorem iEnum_ap (k : Ls) (ρ : En) : iEnum k ρ = (k ρ).bind fun xs ρ => .ok (enumT xs) ρ := rfl
@[simp] theorem cCall_ap (n : Nat) (f : Fs) (as : As) (ρ : En) : cCall n f as ρ = (as ρ).bind fun s ρ => if s.length = n then (match f s with
  | .ret d _ => .ok d ρ
  | .exc x _ => .exc x ρ
  | .stuck => .stuck) else .stuck := rfl
@[simp] theorem cCallK_ap (n : Nat) (f : Fs) (rev : Bool) (as : As) (ρ : En) : cCallK n f rev as ρ = (as ρ).bind fun s ρ => if s.length = n then (match f (turnIf rev s) with
  | .ret d _ => .ok d ρ
  | _ => .stuck) else .stuck := rfl
@[simp] theorem nCall_ap (n : Nat) (f : Fs) (as : As) (ρ : En) : nCall n f as ρ = (as ρ).bind fun s ρ => if s.length = n then (match f s with
  | .ret (.list xs) _ => .ok xs ρ
  | _ => .stuck) else .stuck := rfl
@[simp] theorem cCallP_ap (n : Nat) (f : Fs) (i : Nat) (as : As) (ρ : En) : cCallP n f i as ρ = (lV i ρ).bind fun _ ρ => (as ρ).bind fun s ρ => (lV i ρ).bind fun xs ρ => if s.length = n then (match f (.own xs :: s) with
  | .ret d ys => .ok d (ρ.set i (some (.own ys)))
  | _ => .stuck) else .stuck := rfl
@[simp] theorem sSeq_ap (s t : Ss) (ρ : En) : sSeq s t ρ = (s ρ).bind fun f ρ => match f with | .nx => t ρ | f => .ok f ρ := rfl
@[simp] theorem rD_ap (f : Ex) (ρ : En) : rD f ρ = (f ρ).bind fun d ρ => .ok (.dat d) ρ := rfl
@[simp] theorem rN_ap (n : Ls) (ρ : En) : rN n ρ = (n ρ).bind fun xs ρ => .ok (.own xs) ρ := rfl
@[simp] theorem sSet_ap (i : Nat) (r : Rs) (ρ : En) : sSet i r ρ = (r ρ).bind fun v ρ => .ok .nx (ρ.set i (some v)) := rfl
@[simp] theorem sPar_ap (i j : Nat) (r s : Rs) (ρ : En) : sPar i j r s ρ = (r ρ).bind fun v ρ => (s ρ).bind fun w ρ => .ok .nx ((ρ.set i (some v)).set j (some w)) := rfl
@[simp] theorem sPar3_ap (i j k : Nat) (r s t : Rs) (ρ : En) : sPar3 i j k r s t ρ = (r ρ).bind fun u ρ => (s ρ).bind fun v ρ => (t ρ).bind fun w ρ => .ok .nx (((ρ.set i (some u)).set j (some v)).set k (some w)) := rfl
@[simp] theorem sAsg_ap (f : Ex) (g : Tg) (ρ : En) : sAsg f g ρ = (f ρ).bind fun d ρ => (g d ρ).bind fun _ ρ => .ok .nx ρ := rfl
@[simp] theorem sRet_ap (f : Ex) (ρ : En) : sRet f ρ = (f ρ).bind fun d ρ => .ok (.ret d) ρ := rfl
@[simp] theorem sRetL_ap (n : Ls) (ρ : En) : sRetL n ρ = (n ρ).bind fun xs ρ => .ok (.rtn xs) ρ := rfl
@[simp] theorem sIf_ap (t : Ts) (a b : Ss) (ρ : En) : sIf t a b ρ = (t ρ).bind fun c ρ => if c = true then a ρ else b ρ := rfl
@[simp] theorem sApp_ap (i : Nat) (f : Ex) (ρ : En) : sApp i f ρ = (lV i ρ).bind fun _ ρ => (f ρ).bind fun d ρ => (lV i ρ).bind fun xs ρ =>
  if xs.length < maxSeq then .ok .nx (ρ.set i (some (.own (xs ++ [d])))) else .stuck := rfl
@[simp] theorem sExt_ap (i : Nat) (f : Ex) (ρ : En) : sExt i f ρ = (lV i ρ).bind fun _ ρ => (f ρ).bind fun d ρ => (lV i ρ).bind fun xs ρ => match d with
  | .list ys => if xs.length + ys.length ≤ maxSeq then .ok .nx (ρ.set i (some (.own (xs ++ ys)))) else .stuck
  | _ => .stuck := rfl
@[simp] theorem sFor_ap (it : Ls) (g : Tg) (b : Ss) (ρ : En) : sFor it g b ρ = (it ρ).bind fun xs ρ => forGo g b xs ρ := rfl
@[simp] theorem sWhile_ap (n : Nat) (t : Ts) (b : Ss) (ρ : En) : sWhile n t b ρ = whileGo t b n ρ := rfl
@[simp] theorem gN_ap (i : Nat) (d : PyData) (ρ : En) : gN i d ρ = .ok () (ρ.set i (some (.dat d))) := rfl
@[simp] theorem gTup_ap (gs : List Tg) (ds : List PyData) (ρ : En) : gTup gs (.tuple ds) ρ = if ds.length = gs.length then gAll gs ds ρ else .stuck := rfl
@[simp] theorem gAll_nil (ρ : En) : gAll [] [] ρ = .ok () ρ := rfl
@[simp] theorem gAll_cons (g : Tg) (gs : List Tg) (d : PyData) (ds : List PyData) (ρ : En) : gAll (g :: gs) (d :: ds) ρ = (g d ρ).bind fun _ ρ => gAll gs ds ρ := rfl
@[simp] theorem wipeE_nil (ρ : En) : wipeE ρ [] = ρ := rfl
@[simp] theorem wipeE_cons (ρ : En) (v : Nat) (vs : List Nat) : wipeE ρ (v :: vs) = (wipeE ρ vs).set v none := rfl
@[simp] theorem backE_nil (ρ0 ρ : En) : backE ρ0 ρ [] = ρ := rfl
@[simp] theorem backE_cons (ρ0 ρ : En) (v : Nat) (vs : List Nat) : backE ρ0 ρ (v :: vs) = match ρ0[v]? with
    | some (some (.dat d)) => (backE ρ0 ρ vs).set v (some (.dat d))
    | _ => backE ρ0 ρ vs := rfl
@[simp] theorem bodyFin_f (d : PyData) (ρ : En) : bodyFin false d ρ = .ret d [] := rfl
@[simp] theorem bodyFin_t (d : PyData) (ρ : En) : bodyFin true d ρ = match ownAt ρ 0 with | some xs => .ret d xs | none => .stuck := rfl
@[simp] theorem bodyExc_f (x : Exn) (ρ : En) : bodyExc false x ρ = .exc x [] := rfl
@[simp] theorem ownAt_own (xs : List PyData) (r : En) : ownAt (some (.own xs) :: r) 0 = some xs := rfl
theorem bodyOf_ap (b : Ss) (n : Nat) (io : Bool) (s : List SV) : bodyOf b n io s = match b (s.map some ++ List.replicate n none) with
  | .stuck => .stuck
  | .ok .nx ρ => bodyFin io .none ρ
  | .ok (.ret d) ρ => bodyFin io d ρ
  | .ok _ _ => .stuck
  | .exc x ρ => bodyExc io x ρ := rfl
theorem bodyOfN_ap (b : Ss) (n : Nat) (s : List SV) : bodyOfN b n s = match b (s.map some ++ List.replicate n none) with
  | .ok (.rtn xs) _ => .ret (.list xs) []
  | _ => .stuck := rfl

theorem ret_of {b : Ss} {n : Nat} {s : List SV} {d : PyData} {ρ : En} (h : b (s.map some ++ List.replicate n none) = .ok (.ret d) ρ) : bodyOf b n false s = .ret d [] := by
  unfold bodyOf; rw [h]; rfl
theorem retP_of {b : Ss} {n : Nat} {s : List SV} {d : PyData} {ρ : En} {xs : List PyData} (h : b (s.map some ++ List.replicate n none) = .ok (.ret d) (some (.own xs) :: ρ)) : bodyOf b n true s = .ret d xs := by
  unfold bodyOf; rw [h]; rfl
theorem retN_of {b : Ss} {n : Nat} {s : List SV} {xs : List PyData} {ρ : En} (h : b (s.map some ++ List.replicate n none) = .ok (.rtn xs) ρ) : bodyOfN b n s = .ret (.list xs) [] := by
  unfold bodyOfN; rw [h]
theorem seq_nx {s t : Ss} {ρ ρ1 : En} {r : Out Fl} (h1 : s ρ = .ok .nx ρ1) (h2 : t ρ1 = r) : sSeq s t ρ = r := by
  rw [sSeq_ap, h1]; exact h2
theorem seq_ret {s t : Ss} {ρ ρ1 : En} {d : PyData} (h1 : s ρ = .ok (.ret d) ρ1) : sSeq s t ρ = .ok (.ret d) ρ1 := by
  rw [sSeq_ap, h1]; rfl
theorem ret_ap {f : Ex} {ρ ρ1 : En} {d : PyData} (h : f ρ = .ok d ρ1) : sRet f ρ = .ok (.ret d) ρ1 := by
  rw [sRet_ap, h]; rfl
theorem set_D {i : Nat} {f : Ex} {ρ ρ1 : En} {d : PyData} (h : f ρ = .ok d ρ1) : sSet i (rD f) ρ = .ok .nx (ρ1.set i (some (.dat d))) := by
  rw [sSet_ap, rD_ap, h]; rfl
theorem set_N {i : Nat} {n : Ls} {ρ ρ1 : En} {xs : List PyData} (h : n ρ = .ok xs ρ1) : sSet i (rN n) ρ = .ok .nx (ρ1.set i (some (.own xs))) := by
  rw [sSet_ap, rN_ap, h]; rfl
theorem if_yes {t : Ts} {a b : Ss} {ρ ρ1 : En} {r : Out Fl} (h : t ρ = .ok true ρ1) (h2 : a ρ1 = r) : sIf t a b ρ = r := by
  rw [sIf_ap, h]; exact h2
theorem if_no {t : Ts} {a b : Ss} {ρ ρ1 : En} {r : Out Fl} (h : t ρ = .ok false ρ1) (h2 : b ρ1 = r) : sIf t a b ρ = r := by
  rw [sIf_ap, h]; exact h2
theorem all_ap {l : Ls} {ρ ρ1 : En} {α : Type} {f : α → Bool} {xs : List α} (h : l ρ = .ok (xs.map fun x => .bool (f x)) ρ1) (hb : boolsOf (xs.map fun x => .bool (f x)) = some (xs.map f)) : cAll l ρ = .ok (.bool (xs.all f)) ρ1 := by
  rw [cAll_ap, h, Out.bind_ok, hb]
  simp [lift, List.all_map]
@[simp] theorem ite_and (p : Prop) [Decidable p] (b : Bool) (ρ : En) : (if p then Out.ok (PyData.bool b) ρ else Out.ok (PyData.bool false) ρ) = Out.ok (.bool (decide p && b)) ρ := by
  by_cases h : p <;> simp [h]
@[simp] theorem ite_or (p : Prop) [Decidable p] (b : Bool) (ρ : En) : (if p then Out.ok (PyData.bool true) ρ else Out.ok (PyData.bool b) ρ) = Out.ok (.bool (decide p || b)) ρ := by
  by_cases h : p <;> simp [h]
@[simp] theorem ite_andT (p : Prop) [Decidable p] (b : Bool) (ρ : En) : (if p then Out.ok b ρ else Out.ok false ρ) = Out.ok (decide p && b) ρ := by
  by_cases h : p <;> simp [h]
@[simp] theorem ite_orT (p : Prop) [Decidable p] (b : Bool) (ρ : En) : (if p then Out.ok true ρ else Out.ok b ρ) = Out.ok (decide p || b) ρ := by
  by_cases h : p <;> simp [h]
/-! ### operators -/
@[simp] theorem opAdd_i (i j : Int) : opAdd (.int i) (.int j) = some (.int (i + j)) := rfl
@[simp] theorem opSub_i (i j : Int) : opSub (.int i) (.int j) = some (.int (i - j)) := rfl
@[simp] theorem opLt_i (i j : Int) : opLt (.int i) (.int j) = some (.bool (decide (i < j))) := rfl
@[simp] theorem opLe_i (i j : Int) : opLe (.int i) (.int j) = some (.bool (decide (i ≤ j))) := rfl
@[simp] theorem opGt_i (i j : Int) : opGt (.int i) (.int j) = some (.bool (decide (j < i))) := rfl
@[simp] theorem opGe_i (i j : Int) : opGe (.int i) (.int j) = some (.bool (decide (j ≤ i))) := rfl
@[simp] theorem opMax2_i (i j : Int) : opMax2 (.int i) (.int j) = some (.int (if i < j then j else i)) := rfl
@[simp] theorem opMin2_i (i j : Int) : opMin2 (.int i) (.int j) = some (.int (if j < i then j else i)) := rfl
@[simp] theorem opInt_i (i : Int) : opInt (.int i) = some (.int i) := rfl
@[simp] theorem opAbs_i (i : Int) : opAbs (.int i) = some (.int (i.natAbs : Int)) := rfl
@[simp] theorem opIsN_ap (neg : Bool) (d : PyData) : opIsN neg d = some (.bool (isNone d != neg)) := rfl
@[simp] theorem opIsB_b (neg a b : Bool) : opIsB neg (.bool a) (.bool b) = some (.bool ((a == b) != neg)) := rfl
@[simp] theorem opEq_i (i j : Int) : opEq (.int i) (.int j) = some (.bool (decide (i = j))) := by
  have : opEq (.int i) (.int j) = some (.bool (PyData.eqv (.int i) (.int j))) := rfl
  rw [this, PyData.eqv, W.beq_decide]
@[simp] theorem opNe_i (i j : Int) : opNe (.int i) (.int j) = some (.bool (!decide (i = j))) := by
  have : opNe (.int i) (.int j) = some (.bool (!PyData.eqv (.int i) (.int j))) := rfl
  rw [this, PyData.eqv, W.beq_decide]
@[simp] theorem opEq_s (x y : Str) : opEq (.str x) (.str y) = some (.bool (decide (x = y))) := rfl
@[simp] theorem opNe_s (x y : Str) : opNe (.str x) (.str y) = some (.bool (!decide (x = y))) := rfl
@[simp] theorem isi_tup_t (xs : List PyData) : opIsi [.tuple] (.tuple xs) = some (.bool true) := rfl
@[simp] theorem isi_str_s (x : Str) : opIsi [.str] (.str x) = some (.bool true) := rfl
@[simp] theorem isi_int_i (i : Int) : opIsi [.int] (.int i) = some (.bool true) := rfl
@[simp] theorem isi_bool_i (i : Int) : opIsi [.bool] (.int i) = some (.bool false) := rfl
theorem opIx_t {xs : List PyData} {i : Int} {n : Nat} {d : PyData} (hi : i = n) (h : xs[n]? = some d) : opIx (.tuple xs) (.int i) = some d := by
  subst hi
  have hn := (List.getElem?_eq_some_iff.mp h).1
  show (ixAt xs.length n).bind (fun j => xs[j]?) = _
  unfold ixAt
  rw [if_pos (by omega), if_pos (by omega)]
  simpa using h
theorem opIx_l {xs : List PyData} {i : Int} {n : Nat} {d : PyData} (hi : i = n) (h : xs[n]? = some d) : opIx (.list xs) (.int i) = some d := opIx_t hi h
@[simp] theorem opIx_t0 (d : PyData) (xs : List PyData) : opIx (.tuple (d :: xs)) (.int 0) = some d := opIx_t (n := 0) rfl rfl
@[simp] theorem opIx_t1 (c d : PyData) (xs : List PyData) : opIx (.tuple (c :: d :: xs)) (.int 1) = some d := opIx_t (n := 1) rfl rfl
@[simp] theorem opIx_t2 (b c d : PyData) (xs : List PyData) : opIx (.tuple (b :: c :: d :: xs)) (.int 2) = some d := opIx_t (n := 2) rfl rfl
@[simp] theorem opIx_t3 (a b c d : PyData) (xs : List PyData) : opIx (.tuple (a :: b :: c :: d :: xs)) (.int 3) = some d := opIx_t (n := 3) rfl rfl
@[simp] theorem opIx_l0 (d : PyData) (xs : List PyData) : opIx (.list (d :: xs)) (.int 0) = some d := opIx_l (n := 0) rfl rfl
@[simp] theorem opIx_l1 (c d : PyData) (xs : List PyData) : opIx (.list (c :: d :: xs)) (.int 1) = some d := opIx_l (n := 1) rfl rfl
theorem boolsOf_map {α : Type} (f : α → Bool) : ∀ ns : List α, boolsOf (ns.map fun x => .bool (f x)) = some (ns.map f)
  | [] => rfl
  | n :: r => by rw [List.map_cons, boolsOf, boolsOf_map f r]; rfl
theorem cAll_map {l : Ls} {ρ ρ1 : En} {α : Type} {f : α → Bool} {xs : List α} (h : l ρ = .ok (xs.map fun x => .bool (f x)) ρ1) : cAll l ρ = .ok (.bool (xs.all f)) ρ1 := all_ap h (boolsOf_map f xs)
theorem lenOk_of {xs : List PyData} (h : xs.length ≤ 16777216) : lenOk xs = true := by
  unfold lenOk maxSeq
  simpa using h
@[simp] theorem lenOk_nil : lenOk [] = true := rfl
@[simp] theorem lenOk_1 (a : PyData) : lenOk [a] = true := rfl
@[simp] theorem lenOk_2 (a b : PyData) : lenOk [a, b] = true := rfl
@[simp] theorem lenOk_3 (a b c : PyData) : lenOk [a, b, c] = true := rfl
@[simp] theorem lenOk_4 (a b c d : PyData) : lenOk [a, b, c, d] = true := rfl
theorem intsOf_m : ∀ ns : List Int, intsOf (ns.map .int) = some ns
  | [] => rfl
  | n :: r => by rw [List.map_cons, intsOf, intsOf_m r]; rfl
theorem opLt_T (a b : List Int) : opLt (tupI a) (tupI b) = some (.bool (lexI a b)) := by
  show (match intsOf (a.map .int), intsOf (b.map .int) with
    | some ns, some ms => some (PyData.bool (lexI ns ms))
    | _, _ => none) = _
  rw [intsOf_m, intsOf_m]

/-! ### data that == takes -/
/-- no dicts, not deep -/
structure Fine (k : Nat) (d : PyData) : Prop where
  lay : d.canLay0 = true
  dep : d.depth ≤ k
theorem Fine.mono {j k : Nat} {d : PyData} (h : Fine j d) (l : j ≤ k) : Fine k d := ⟨h.lay, Nat.le_trans h.dep l⟩
theorem fine_int (i : Int) : Fine 0 (.int i) := ⟨rfl, Nat.le_refl _⟩
theorem fine_bool (i : Bool) : Fine 0 (.bool i) := ⟨rfl, Nat.le_refl _⟩
theorem fine_none : Fine 0 .none := ⟨rfl, Nat.le_refl _⟩
theorem fine_str {x : Str} (h : PyData.canLay0 (.str x) = true) : Fine 0 (.str x) := ⟨h, Nat.le_refl _⟩
theorem layAll {xs : List PyData} (h : ∀ x ∈ xs, x.canLay0 = true) : PyData.canLayAll0 xs = true := by
  induction xs with
  | nil => rfl
  | cons x xs ih => rw [PyData.canLayAll0, h x (.head _), ih fun y hy => h y (.tail _ hy)]; rfl
theorem depAll {k : Nat} {xs : List PyData} (h : ∀ x ∈ xs, x.depth ≤ k) : PyData.depthAll xs ≤ k := by
  induction xs with
  | nil => exact Nat.zero_le _
  | cons x xs ih => rw [PyData.depthAll]; exact Nat.max_le.mpr ⟨h x (.head _), ih fun y hy => h y (.tail _ hy)⟩
theorem fine_list {k : Nat} {xs : List PyData} (h : ∀ x ∈ xs, Fine k x) : Fine (k + 1) (.list xs) where
  lay := by rw [PyData.canLay0]; exact layAll fun x hx => (h x hx).lay
  dep := by rw [PyData.depth]; exact Nat.succ_le_succ (depAll fun x hx => (h x hx).dep)
theorem fine_tuple {k : Nat} {xs : List PyData} (h : ∀ x ∈ xs, Fine k x) : Fine (k + 1) (.tuple xs) where
  lay := by rw [PyData.canLay0]; exact layAll fun x hx => (h x hx).lay
  dep := by rw [PyData.depth]; exact Nat.succ_le_succ (depAll fun x hx => (h x hx).dep)
theorem fine_tupI (ns : List Int) : Fine 1 (tupI ns) := fine_tuple fun x hx => by
  obtain ⟨n, _, rfl⟩ := List.mem_map.mp hx
  exact fine_int n
theorem eqOk_fine {k : Nat} {a b : PyData} (ha : Fine 64 a) (hb : Fine k b) : eqOk a b = true := by
  unfold eqOk
  rw [ha.lay, hb.lay]
  have := ha.dep
  simp only [Bool.and_self, Bool.true_and, decide_eq_true_eq]
  omega
mutual
theorem eqv_refl : ∀ {d : PyData}, d.canLay0 = true → PyData.eqv d d = true
  | .none, _ => rfl
  | .bool b, _ => by cases b <;> rfl
  | .int i, _ => by rw [PyData.eqv]; exact beq_self_eq_true i
  | .str x, _ => by rw [PyData.eqv]; exact beq_self_eq_true x
  | .list xs, h => by rw [PyData.canLay0] at h; rw [PyData.eqv]; exact eqvAll_refl h
  | .tuple xs, h => by rw [PyData.canLay0] at h; rw [PyData.eqv]; exact eqvAll_refl h
  | .dict _, h => by simp [PyData.canLay0] at h
theorem eqvAll_refl : ∀ {xs : List PyData}, PyData.canLayAll0 xs = true → PyData.eqvAll xs xs = true
  | [], _ => rfl
  | x :: xs, h => by
    rw [PyData.canLayAll0, Bool.and_eq_true] at h
    rw [PyData.eqvAll, eqv_refl h.1, eqvAll_refl h.2]; rfl
end
theorem opEq_data {a b : PyData} (h : eqOk a b = true) (hs : strsOf a b = none) : opEq a b = some (.bool (PyData.eqv a b)) := by
  unfold opEq
  rw [hs]
  simp only [h, if_true]
theorem opNe_data {a b : PyData} (h : eqOk a b = true) (hs : strsOf a b = none) : opNe a b = some (.bool (!PyData.eqv a b)) := by
  unfold opNe
  rw [hs]
  simp only [h, if_true]
theorem opEq_self {a : PyData} (h : Fine 64 a) : opEq a a = some (.bool true) := by
  cases hs : strsOf a a with
  | none => rw [opEq_data (eqOk_fine h h) hs, eqv_refl h.lay]
  | some p =>
    cases a with
    | str x => rw [opEq_s]; simp
    | _ => cases hs
theorem opNe_self {a : PyData} (h : Fine 64 a) : opNe a a = some (.bool false) := by
  cases hs : strsOf a a with
  | none => rw [opNe_data (eqOk_fine h h) hs, eqv_refl h.lay]; rfl
  | some p =>
    cases a with
    | str x => rw [opNe_s]; simp
    | _ => cases hs
theorem opEq_nil {k : Nat} {xs : List PyData} (h : Fine k (.list xs)) : opEq (.list xs) (.list []) = some (.bool xs.isEmpty) := by
  have e : eqOk (.list xs) (.list []) = true := by
    unfold eqOk
    have l := h.lay
    rw [l]
    have : PyData.depth (.list []) = 1 := rfl
    rw [this]
    have : PyData.canLay0 (.list []) = true := rfl
    rw [this]
    simp only [Bool.and_self, Bool.true_and, decide_eq_true_eq]
    omega
  rw [opEq_data e rfl]
  cases xs <;> rfl
theorem opNe_nil {k : Nat} {xs : List PyData} (h : Fine k (.list xs)) : opNe (.list xs) (.list []) = some (.bool (!xs.isEmpty)) := by
  have e : eqOk (.list xs) (.list []) = true := by
    unfold eqOk
    have l := h.lay
    rw [l]
    have : PyData.depth (.list []) = 1 := rfl
    rw [this]
    have : PyData.canLay0 (.list []) = true := rfl
    rw [this]
    simp only [Bool.and_self, Bool.true_and, decide_eq_true_eq]
    omega
  rw [opNe_data e rfl]
  cases xs <;> rfl

/-! ### data that stand for α -/
/-- D writes α's values as data: unlike ones are unlike -/
structure Wr {α : Type} (D : α → PyData) (k : Nat) : Prop where
  fine : ∀ a, Fine k (D a)
  inj : ∀ a b, PyData.eqv (D a) (D b) = true → a = b
theorem Wr.eqv {α : Type} [DecidableEq α] {D : α → PyData} {k : Nat} (w : Wr D k) (a b : α) : PyData.eqv (D a) (D b) = decide (a = b) := by
  by_cases h : a = b
  · subst h; rw [eqv_refl (w.fine a).lay]; simp
  · cases e : PyData.eqv (D a) (D b)
    · simp [h]
    · exact absurd (w.inj a b e) h
theorem wr_int : Wr PyData.int 0 := ⟨fine_int, fun a b h => by
  rw [PyData.eqv] at h; exact beq_iff_eq.mp h⟩
theorem Wr.map {α : Type} {D : α → PyData} {k : Nat} (w : Wr D k) : ∀ {xs ys : List α}, PyData.eqvAll (xs.map D) (ys.map D) = true → xs = ys
  | [], [], _ => rfl
  | [], _ :: _, h => by cases h
  | _ :: _, [], h => by cases h
  | x :: xs, y :: ys, h => by
    rw [List.map_cons, List.map_cons, PyData.eqvAll, Bool.and_eq_true] at h
    rw [w.inj x y h.1, w.map h.2]
theorem Wr.list {α : Type} {D : α → PyData} {k : Nat} (w : Wr D k) : Wr (fun xs : List α => .list (xs.map D)) (k + 1) where
  fine xs := fine_list fun d hd => by
    obtain ⟨x, _, rfl⟩ := List.mem_map.mp hd
    exact w.fine x
  inj xs ys h := by rw [PyData.eqv] at h; exact w.map h
theorem Wr.tuple {α : Type} {D : α → PyData} {k : Nat} (w : Wr D k) : Wr (fun xs : List α => .tuple (xs.map D)) (k + 1) where
  fine xs := fine_tuple fun d hd => by
    obtain ⟨x, _, rfl⟩ := List.mem_map.mp hd
    exact w.fine x
  inj xs ys h := by rw [PyData.eqv] at h; exact w.map h
theorem wr_tupI : Wr tupI 1 := wr_int.tuple
theorem Wr.opEq {α : Type} [DecidableEq α] {D : α → PyData} {k : Nat} (w : Wr D k) (hk : k ≤ 64) (a b : α) : Mo.opEq (D a) (D b) = some (.bool (decide (a = b))) := by
  cases hs : strsOf (D a) (D b) with
  | none => rw [opEq_data (eqOk_fine ((w.fine a).mono hk) (w.fine b)) hs, w.eqv]
  | some p =>
    have e := w.eqv a b
    revert e hs
    cases D a <;> cases D b <;> intro hs e <;> first | cases hs | skip
    rw [opEq_s, ← e, PyData.eqv, W.beq_decide]
theorem Wr.opNe {α : Type} [DecidableEq α] {D : α → PyData} {k : Nat} (w : Wr D k) (hk : k ≤ 64) (a b : α) : Mo.opNe (D a) (D b) = some (.bool (!decide (a = b))) := by
  cases hs : strsOf (D a) (D b) with
  | none => rw [opNe_data (eqOk_fine ((w.fine a).mono hk) (w.fine b)) hs, w.eqv]
  | some p =>
    have e := w.eqv a b
    revert e hs
    cases D a <;> cases D b <;> intro hs e <;> first | cases hs | skip
    rw [opNe_s, ← e, PyData.eqv, W.beq_decide]
theorem Wr.inL {α : Type} [DecidableEq α] {D : α → PyData} {k : Nat} (w : Wr D k) (hk : k ≤ 32) (a : α) (xs : List α) : Mo.inL (D a) (xs.map D) = some (decide (a ∈ xs)) := by
  unfold Mo.inL
  have h1 : ((xs.map D).all fun x => x.canLay0) = true := by
    rw [List.all_eq_true]
    intro d hd
    obtain ⟨x, _, rfl⟩ := List.mem_map.mp hd
    exact (w.fine x).lay
  have h2 := (w.fine a).dep
  rw [(w.fine a).lay, h1]
  simp only [Bool.and_self, Bool.true_and, decide_eq_true_eq]
  rw [if_pos (show (D a).depth ≤ 32 by omega)]
  congr 1
  rw [List.any_map, Bool.eq_iff_iff, List.any_eq_true, decide_eq_true_eq]
  constructor
  · rintro ⟨x, hx, e⟩
    simp only [Function.comp_apply, w.eqv, decide_eq_true_eq] at e
    exact e ▸ hx
  · intro h
    exact ⟨a, h, by simp only [Function.comp_apply, w.eqv, decide_true]⟩

/-! ### sorted -/
theorem dataLe_not (a b : PyData) : W.dataLe false id a b = !W.dataLt b a := rfl
theorem sortD_map {α : Type} {D : α → PyData} {le : α → α → Bool} (h : ∀ a b, W.dataLe false id (D a) (D b) = le a b) (xs : List α) : sortD (xs.map D) = (xs.mergeSort le).map D := by
  unfold sortD
  exact (List.map_mergeSort fun a _ b _ => (h a b).symm).symm
theorem sortOk_of {α : Type} {D : α → PyData} (al : ∀ a b, W.alike (D a) (D b) = true) (so : (∀ a, ∃ x xs, D a = .tuple (x :: xs)) ∨ ∀ a, (D a ≠ .none ∧ ∀ xs, D a ≠ .tuple xs)) (dp : ∀ a, (D a).depth ≤ 32) (xs : List α) (hl : xs.length ≤ 16777216) : sortOk (xs.map D) = true := by
  unfold sortOk
  simp only [Bool.and_eq_true, decide_eq_true_eq, List.all_eq_true]
  refine ⟨⟨⟨?_, ?_⟩, by simpa [maxSeq] using hl⟩, ?_⟩
  · unfold alikeL
    rw [List.all_eq_true]
    intro d hd
    rw [List.all_eq_true]
    intro e he
    obtain ⟨x, _, rfl⟩ := List.mem_map.mp hd
    obtain ⟨y, _, rfl⟩ := List.mem_map.mp he
    exact al x y
  · unfold sortableL
    rw [Bool.or_eq_true, List.all_eq_true, List.all_eq_true]
    rcases so with so | so
    · refine .inl fun d hd => ?_
      obtain ⟨x, _, rfl⟩ := List.mem_map.mp hd
      obtain ⟨y, ys, e⟩ := so x
      rw [e]
    · refine .inr fun d hd => ?_
      obtain ⟨x, _, rfl⟩ := List.mem_map.mp hd
      obtain ⟨h1, h2⟩ := so x
      revert h1 h2
      cases D x <;> intro h1 h2 <;> first | rfl | exact absurd rfl h1 | exact absurd rfl (h2 _)
  · intro d hd
    obtain ⟨x, _, rfl⟩ := List.mem_map.mp hd
    exact dp x
theorem dataLe_int (a b : Int) : W.dataLe false id (.int a) (.int b) = decide (a ≤ b) := by
  rw [dataLe_not, W.dataLt_int, ← decide_not]
  exact decide_eq_decide.mpr (by omega)
theorem dataLt_tupI : ∀ a b : List Int, W.dataLt (tupI a) (tupI b) = lexI a b := fun a b => by
  unfold tupI
  rw [W.dataLt_tuple]
  induction a generalizing b with
  | nil =>
    cases b with
    | nil => exact PyProof.Rows.lex_irrefl _
    | cons y ys => exact W.lexAll_map (α := Int) [] (y :: ys)
  | cons x xs ih =>
    cases b with
    | nil => exact W.lexAll_map (α := Int) (x :: xs) []
    | cons y ys =>
      have h1 := W.lexAll_map (α := Int) (x :: xs) (y :: ys)
      have h2 := W.lexAll_map (α := Int) xs ys
      refine h1.trans ?_
      rw [lexI, W.listLt]
      by_cases e : x = y
      · rw [if_pos e, if_pos e, ← ih ys]; exact h2.symm
      · rw [if_neg e, if_neg e]; rfl
theorem dataLe_tupI (a b : List Int) : W.dataLe false id (tupI a) (tupI b) = leT a b := by
  rw [dataLe_not, dataLt_tupI]; rfl
theorem alike_tupI (a b : List Int) : W.alike (tupI a) (tupI b) = true := by
  unfold tupI
  rw [W.alike]
  exact W.alikeAll_map (α := Int) a b
theorem sortOk_int (xs : List Int) (hl : xs.length ≤ 16777216) : sortOk (xs.map .int) = true :=
  sortOk_of (fun a b => by rw [W.alike]) (.inr fun a => ⟨by simp, by simp⟩) (fun a => Nat.zero_le _) xs hl
theorem sortOk_tupI {α : Type} {f : α → List Int} (hf : ∀ a, f a ≠ []) (xs : List α) (hl : xs.length ≤ 16777216) : sortOk (xs.map fun a => tupI (f a)) = true :=
  sortOk_of (fun a b => alike_tupI _ _) (.inl fun a => by
    match f a, hf a with
    | x :: r, _ => exact ⟨_, _, rfl⟩) (fun a => Nat.le_trans (fine_tupI _).dep (by decide)) xs hl

/-! ### loops -/
def lcStep (g : Tg) (t : Ts) (e : Ex) (vs : List Nat) (x : PyData) (ρ : En) : Out (Option PyData) :=
  (g x ρ).bind fun _ ρ => (t ρ).bind fun b ρ => if b = true then (e ρ).bind fun d ρ => .ok (some d) (wipeE ρ vs) else .ok none (wipeE ρ vs)
@[simp] theorem lcStep_ap (g : Tg) (t : Ts) (e : Ex) (vs : List Nat) (x : PyData) (ρ : En) : lcStep g t e vs x ρ = (g x ρ).bind fun _ ρ => (t ρ).bind fun b ρ => if b = true then (e ρ).bind fun d ρ => .ok (some d) (wipeE ρ vs) else .ok none (wipeE ρ vs) := rfl
theorem lcGo_cons (g : Tg) (t : Ts) (e : Ex) (vs : List Nat) (x : PyData) (xs acc : List PyData) (ρ : En) (h : acc.length < maxSeq) : lcGo g t e vs (x :: xs) acc ρ = (lcStep g t e vs x ρ).bind fun o ρ => lcGo g t e vs xs (acc ++ o.toList) ρ := by
  unfold lcStep
  rw [lcGo]
  (try dsimp only)
  cases g x ρ with
  | stuck => rfl
  | exc _ _ => rfl
  | ok u ρ1 =>
    simp only [Out.bind_ok]
    cases t ρ1 with
    | stuck => rfl
    | exc _ _ => rfl
    | ok b ρ2 =>
      simp only [Out.bind_ok]
      cases b with
      | false => simp
      | true =>
        simp only [if_true]
        cases e ρ2 with
        | stuck => rfl
        | exc _ _ => rfl
        | ok d ρ3 => simp [h]
theorem lcGo_map {α : Type} {D : α → PyData} {F : α → Option PyData} {g : Tg} {t : Ts} {e : Ex} {vs : List Nat} {ρ : En} : ∀ {ys : List α} {acc : List PyData}, acc.length + ys.length ≤ 16777216 → (∀ y ∈ ys, lcStep g t e vs (D y) ρ = .ok (F y) ρ) → lcGo g t e vs (ys.map D) acc ρ = .ok (acc ++ ys.filterMap F) ρ
  | [], acc, _, _ => by simp [lcGo]
  | y :: ys, acc, hl, h => by
    rw [List.map_cons, lcGo_cons _ _ _ _ _ _ _ _ (by simp only [List.length_cons, maxSeq] at *; omega), h y (.head _), Out.bind_ok]
    have : (F y).toList.length ≤ 1 := by cases F y <;> simp
    rw [lcGo_map (by simp only [List.length_append, List.length_cons] at *; omega) fun z hz => h z (.tail _ hz)]
    rw [List.append_assoc]
    congr 2
    cases e2 : F y <;> simp [List.filterMap_cons, e2]
theorem nLc_map {α : Type} {D : α → PyData} {F : α → Option PyData} {it : Ls} {g : Tg} {t : Ts} {e : Ex} {vs : List Nat} {ρ ρ1 : En} {ys : List α} (hi : it ρ = .ok (ys.map D) ρ1) (h : ∀ y ∈ ys, lcStep g t e vs (D y) (wipeE ρ1 vs) = .ok (F y) (wipeE ρ1 vs)) (hl : ys.length ≤ 16777216) :
    nLc it g t e vs ρ = .ok (ys.filterMap F) (backE ρ1 (wipeE ρ1 vs) vs) := by
  unfold nLc
  rw [hi, Out.bind_ok, lcGo_map (by simpa using hl) h]
  simp
theorem filterMap_ite {α β : Type} (p : α → Bool) (E : α → β) : ∀ ys : List α, (ys.filterMap fun y => if p y = true then some (E y) else none) = (ys.filter p).map E
  | [] => rfl
  | y :: ys => by
    rw [List.filterMap_cons, List.filter_cons]
    cases h : p y <;> simp [filterMap_ite p E ys]
/-- nothing stands there, or data -/
def Jk : Option SV → Prop
  | none => True
  | some (.dat _) => True
  | _ => False
@[simp] theorem jk_none : Jk none := trivial
@[simp] theorem jk_dat (d : PyData) : Jk (some (.dat d)) := trivial
def JkO : Option (Option SV) → Prop
  | some j => Jk j
  | none => True
@[simp] theorem jkO_some (j : Option SV) : JkO (some j) = Jk j := rfl
theorem wipe_len (ρ : En) : ∀ vs, (wipeE ρ vs).length = ρ.length
  | [] => rfl
  | v :: vs => by rw [wipeE_cons, List.length_set, wipe_len ρ vs]
theorem back_len (ρ ρ' : En) : ∀ vs, (backE ρ ρ' vs).length = ρ'.length
  | [] => rfl
  | v :: vs => by
    rw [backE_cons]
    split
    · rw [List.length_set, back_len]
    · rw [back_len]
theorem wipe_get (ρ : En) (i : Nat) : ∀ vs, (i ∈ vs → i < ρ.length → (wipeE ρ vs)[i]? = some none) ∧ (i ∉ vs → (wipeE ρ vs)[i]? = ρ[i]?)
  | [] => ⟨(fun h => nomatch h), fun _ => rfl⟩
  | v :: vs => by
    have ih := wipe_get ρ i vs
    rw [wipeE_cons]
    by_cases e : v = i
    · subst e
      refine ⟨fun _ h => ?_, fun h => absurd (.head _) h⟩
      rw [List.getElem?_set_self (by rw [wipe_len]; exact h)]
    · rw [List.getElem?_set_ne e]
      refine ⟨fun h hl => ih.1 ?_ hl, fun h => ih.2 fun z => h (.tail _ z)⟩
      rcases List.mem_cons.mp h with h | h
      · exact absurd h.symm e
      · exact h
theorem back_at {ρ ρ' : En} {i : Nat} (hl : ρ.length = ρ'.length) : ∀ vs, (∀ v ∈ vs, JkO ρ[v]?) → (∀ v ∈ vs, v < ρ'.length → ρ'[v]? = some none) → (i ∈ vs → (backE ρ ρ' vs)[i]? = ρ[i]?) ∧ (i ∉ vs → (backE ρ ρ' vs)[i]? = ρ'[i]?)
  | [], _, _ => ⟨(fun h => nomatch h), fun _ => rfl⟩
  | v :: vs, hj, hn => by
    have ih := back_at (i := i) hl vs (fun w hw => hj w (.tail _ hw)) (fun w hw => hn w (.tail _ hw))
    rw [backE_cons]
    have jv := hj v (.head _)
    by_cases e : v = i
    · subst e
      refine ⟨fun _ => ?_, fun h => absurd (.head _) h⟩
      cases hv : ρ[v]? with
      | none =>
        have h1 := List.getElem?_eq_none_iff.mp hv
        show (backE ρ ρ' vs)[v]? = none
        rw [List.getElem?_eq_none_iff, back_len]; omega
      | some o =>
        have h1 := (List.getElem?_eq_some_iff.mp hv).1
        rw [hv] at jv
        cases o with
        | none =>
          show (backE ρ ρ' vs)[v]? = some none
          by_cases m : v ∈ vs
          · rw [ih.1 m, hv]
          · rw [ih.2 m, hn v (.head _) (by omega)]
        | some x =>
          cases x with
          | dat d =>
            show ((backE ρ ρ' vs).set v (some (.dat d)))[v]? = _
            rw [List.getElem?_set_self (by rw [back_len]; omega)]
          | _ => exact absurd jv id
    · have go : ∀ o : Option (Option SV), (match o with
        | some (some (.dat d)) => (backE ρ ρ' vs).set v (some (.dat d))
        | _ => backE ρ ρ' vs)[i]? = (backE ρ ρ' vs)[i]? := fun o => by
        split
        · rw [List.getElem?_set_ne e]
        · rfl
      rw [go]
      refine ⟨fun h => ih.1 ?_, fun h => ih.2 fun z => h (.tail _ z)⟩
      rcases List.mem_cons.mp h with h | h
      · exact absurd h.symm e
      · exact h
/-- a comprehension leaves the slots as they were -/
theorem back_wipe {ρ : En} {vs : List Nat} (h : ∀ v ∈ vs, JkO ρ[v]?) : backE ρ (wipeE ρ vs) vs = ρ := by
  refine List.ext_getElem? fun i => ?_
  have := back_at (i := i) (wipe_len ρ vs).symm vs h fun v hv hl => (wipe_get ρ v vs).1 hv (by rwa [wipe_len] at hl)
  by_cases m : i ∈ vs
  · exact this.1 m
  · rw [this.2 m, (wipe_get ρ i vs).2 m]
/-- [E(y) for y in ys if p(y)] -/
theorem nLc_if {α : Type} {D : α → PyData} {p : α → Bool} {E : α → PyData} {it : Ls} {g : Tg} {t : Ts} {e : Ex} {vs : List Nat} {ρ : En} {ys : List α} (hi : it ρ = .ok (ys.map D) ρ) (hb : ∀ v ∈ vs, JkO ρ[v]?) (h : ∀ y ∈ ys, lcStep g t e vs (D y) (wipeE ρ vs) = .ok (if p y = true then some (E y) else none) (wipeE ρ vs)) (hl : ys.length ≤ 16777216) :
    nLc it g t e vs ρ = .ok ((ys.filter p).map E) ρ := by
  rw [nLc_map hi h hl, filterMap_ite, back_wipe hb]
/-- [E(y) for y in ys] -/
theorem nLc_all {α : Type} {D : α → PyData} {E : α → PyData} {it : Ls} {g : Tg} {t : Ts} {e : Ex} {vs : List Nat} {ρ : En} {ys : List α} (hi : it ρ = .ok (ys.map D) ρ) (hb : ∀ v ∈ vs, JkO ρ[v]?) (h : ∀ y ∈ ys, lcStep g t e vs (D y) (wipeE ρ vs) = .ok (some (E y)) (wipeE ρ vs)) (hl : ys.length ≤ 16777216) :
    nLc it g t e vs ρ = .ok (ys.map E) ρ := by
  rw [nLc_map (F := fun y => some (E y)) hi h hl, back_wipe hb]
  simp

def turn (g : Tg) (b : Ss) (x : PyData) (ρ : En) : Out Fl := (g x ρ).bind fun _ ρ => b ρ
@[simp] theorem turn_ap (g : Tg) (b : Ss) (x : PyData) (ρ : En) : turn g b x ρ = (g x ρ).bind fun _ ρ => b ρ := rfl
theorem forGo_cons (g : Tg) (b : Ss) (x : PyData) (xs : List PyData) (ρ : En) : forGo g b (x :: xs) ρ = (turn g b x ρ).bind fun f ρ => match f with
    | .nx => forGo g b xs ρ
    | .ct => forGo g b xs ρ
    | .brk => .ok .nx ρ
    | .ret d => .ok (.ret d) ρ
    | .rtn d => .ok (.rtn d) ρ := by
  unfold turn
  rw [Out.bind_assoc]
  rfl
/-- a loop that goes on to its end; I: of what was taken -/
theorem forGo_pre {α : Type} {D : α → PyData} {g : Tg} {b : Ss} (I : List α → En → Prop) {all : List α} (hs : ∀ pre y post ρ, all = pre ++ y :: post → I pre ρ → ∃ ρ', turn g b (D y) ρ = .ok .nx ρ' ∧ I (pre ++ [y]) ρ') :
    ∀ (ys pre : List α) (ρ : En), all = pre ++ ys → I pre ρ → ∃ ρ', forGo g b (ys.map D) ρ = .ok .nx ρ' ∧ I all ρ'
  | [], pre, ρ, e, h => ⟨ρ, rfl, by rw [e, List.append_nil]; exact h⟩
  | y :: ys, pre, ρ, e, h => by
    obtain ⟨ρ1, e1, h1⟩ := hs pre y ys ρ e h
    obtain ⟨ρ2, e2, h2⟩ := forGo_pre I hs ys (pre ++ [y]) ρ1 (by rw [e]; simp) h1
    refine ⟨ρ2, ?_, h2⟩
    rw [List.map_cons, forGo_cons, e1]
    exact e2
theorem forGo_inv {α : Type} {D : α → PyData} {g : Tg} {b : Ss} (I : List α → En → Prop) {ys : List α} {ρ : En} (h0 : I [] ρ) (hs : ∀ pre y post ρ, ys = pre ++ y :: post → I pre ρ → ∃ ρ', turn g b (D y) ρ = .ok .nx ρ' ∧ I (pre ++ [y]) ρ') : ∃ ρ', forGo g b (ys.map D) ρ = .ok .nx ρ' ∧ I ys ρ' :=
  forGo_pre I hs ys [] ρ rfl h0
/-- a while, by a measure -/
theorem whileGo_inv {t : Ts} {b : Ss} (I : Nat → En → Prop) (Z : En → Prop) (hs : ∀ m ρ, I m ρ → (∃ ρ1, t ρ = .ok false ρ1 ∧ Z ρ1) ∨ ∃ ρ1 ρ2 k, t ρ = .ok true ρ1 ∧ b ρ1 = .ok .nx ρ2 ∧ k < m ∧ I k ρ2) :
    ∀ (n m : Nat) (ρ : En), m < n → I m ρ → ∃ ρ', whileGo t b n ρ = .ok .nx ρ' ∧ Z ρ'
  | 0, _, _, h, _ => absurd h (Nat.not_lt_zero _)
  | n + 1, m, ρ, h, hI => by
    rcases hs m ρ hI with ⟨ρ1, e, z⟩ | ⟨ρ1, ρ2, k, e1, e2, lt, h2⟩
    · refine ⟨ρ1, ?_, z⟩
      rw [whileGo]
      (try dsimp only)
      rw [e]; rfl
    · obtain ⟨ρ3, e3, z⟩ := whileGo_inv I Z hs n k ρ2 (by omega) h2
      refine ⟨ρ3, ?_, z⟩
      rw [whileGo]
      (try dsimp only)
      rw [e1]
      simp only [Out.bind_ok, if_true]
      rw [e2]
      exact e3

/-! ### dicts by tuples -/
@[simp] theorem keyP_2 (a b : Int) : keyP (.tuple [.int a, .int b]) = some [a, b] := rfl
def hasK (k : List Int) (kvs : List (List Int × PyData)) : Bool := (look k kvs).isSome
@[simp] theorem cInP_ap (neg : Bool) (f : Ex) (i : Nat) (ρ : En) : cInP neg f i ρ = (f ρ).bind fun d ρ => match keyP d, ρ[i]? with
  | some k, some (some (.dP kvs)) => .ok (.bool (hasK k kvs != neg)) ρ
  | _, _ => .stuck := rfl
@[simp] theorem iKeysP_ap (i : Nat) (ρ : En) : iKeysP i ρ = match ρ[i]? with
  | some (some (.dP kvs)) => .ok (kvs.map fun kv => tupI kv.1) ρ
  | _ => .stuck := rfl
@[simp] theorem aKP_ap (i : Nat) (r : As) (ρ : En) : aKP i r ρ = match ρ[i]? with
  | some (some (.dP kvs)) => (r ρ).bind fun s ρ => .ok (.dP kvs :: s) ρ
  | _ => .stuck := rfl
theorem look_none {κ β : Type} [DecidableEq κ] {k : κ} {kvs : List (κ × β)} (h : k ∉ kvs.map (·.1)) : (kvs.any fun kv => decide (kv.1 = k)) = false := by
  rw [List.any_eq_false]
  intro kv hkv
  simp only [decide_eq_true_eq]
  exact fun e => h (List.mem_map.mpr ⟨kv, hkv, e⟩)
theorem look_isSome {κ β : Type} [DecidableEq κ] (k : κ) (kvs : List (κ × β)) : (look k kvs).isSome = decide (k ∈ kvs.map (·.1)) := by
  unfold look
  rw [Option.isSome_map, Bool.eq_iff_iff, List.find?_isSome, decide_eq_true_eq, List.mem_map]
  constructor
  · rintro ⟨x, hx, e⟩; exact ⟨x, hx, by simpa using e⟩
  · rintro ⟨x, hx, e⟩; exact ⟨x, hx, by simpa using e⟩
def dcStep (g : Tg) (k v : Ex) (vs : List Nat) (x : PyData) (ρ : En) : Out (PyData × PyData) := (g x ρ).bind fun _ ρ => (k ρ).bind fun kd ρ => (v ρ).bind fun vd ρ => .ok (kd, vd) (wipeE ρ vs)
@[simp] theorem dcStep_ap (g : Tg) (k v : Ex) (vs : List Nat) (x : PyData) (ρ : En) : dcStep g k v vs x ρ = (g x ρ).bind fun _ ρ => (k ρ).bind fun kd ρ => (v ρ).bind fun vd ρ => .ok (kd, vd) (wipeE ρ vs) := rfl
theorem dcpGo_cons (g : Tg) (k v : Ex) (vs : List Nat) (x : PyData) (xs : List PyData) (acc : List (List Int × PyData)) (ρ : En) (h : acc.length < maxSeq) : dcpGo g tYes k v vs (x :: xs) acc ρ = (dcStep g k v vs x ρ).bind fun p ρ => match keyP p.1 with
    | some ns => dcpGo g tYes k v vs xs (putKV ns p.2 acc) ρ
    | none => .stuck := by
  unfold dcStep
  rw [dcpGo]
  (try dsimp only)
  cases g x ρ with
  | stuck => rfl
  | exc _ _ => rfl
  | ok u ρ1 =>
    simp only [Out.bind_ok, tYes_ap, if_true]
    cases k ρ1 with
    | stuck => rfl
    | exc _ _ => rfl
    | ok kd ρ2 =>
      simp only [Out.bind_ok]
      cases v ρ2 with
      | stuck => rfl
      | exc _ _ => rfl
      | ok vd ρ3 =>
        simp only [Out.bind_ok, if_pos h]
        all_goals rfl
theorem dcpGo_map {α : Type} {D : α → PyData} {K : α → List Int} {V : α → PyData} {g : Tg} {k v : Ex} {vs : List Nat} {ρ : En} : ∀ {ys : List α} {acc : List (List Int × PyData)}, acc.length + ys.length ≤ 16777216 → (acc.map (·.1) ++ ys.map K).Nodup → (∀ y ∈ ys, ∃ d, dcStep g k v vs (D y) ρ = .ok (d, V y) ρ ∧ keyP d = some (K y)) →
    dcpGo g tYes k v vs (ys.map D) acc ρ = .ok (acc ++ ys.map fun y => (K y, V y)) ρ
  | [], acc, _, _, _ => by simp [dcpGo]
  | y :: ys, acc, hl, nd, h => by
    obtain ⟨d, e, hk⟩ := h y (.head _)
    rw [List.map_cons, dcpGo_cons _ _ _ _ _ _ _ _ (by simp only [List.length_cons, maxSeq] at *; omega), e, Out.bind_ok, hk]
    have hn : K y ∉ acc.map (·.1) := fun hm => by
      have := (List.nodup_append.mp nd).2.2 _ hm (K y) (by simp)
      exact this rfl
    have ep : putKV (K y) (V y) acc = acc ++ [(K y, V y)] := by
      unfold putKV
      rw [look_none hn]
      rfl
    show dcpGo g tYes k v vs (ys.map D) (putKV (K y) (V y) acc) ρ = _
    rw [ep, dcpGo_map (acc := acc ++ [(K y, V y)]) (by simp only [List.length_append, List.length_cons, List.length_nil] at *; omega) (by simpa [List.append_assoc] using nd) fun z hz => h z (.tail _ hz)]
    simp
theorem rDcP_map {α : Type} {D : α → PyData} {K : α → List Int} {V : α → PyData} {it : Ls} {g : Tg} {k v : Ex} {vs : List Nat} {ρ : En} {ys : List α} (hi : it ρ = .ok (ys.map D) ρ) (hb : ∀ v ∈ vs, JkO ρ[v]?) (nd : (ys.map K).Nodup) (h : ∀ y ∈ ys, ∃ d, dcStep g k v vs (D y) (wipeE ρ vs) = .ok (d, V y) (wipeE ρ vs) ∧ keyP d = some (K y)) (hl : ys.length ≤ 16777216) :
    rDcP it g tYes k v vs ρ = .ok (.dP (ys.map fun y => (K y, V y))) ρ := by
  unfold rDcP
  rw [hi, Out.bind_ok, dcpGo_map (by simpa using hl) (by simpa using nd) h, Out.bind_ok, back_wipe hb]
  simp

/-! ### statements by what they lead to -/
def Sat (o : Out Fl) (Q : Fl → En → Prop) : Prop := ∃ f ρ, o = .ok f ρ ∧ Q f ρ
theorem Sat.of {o : Out Fl} {Q : Fl → En → Prop} {f : Fl} {ρ : En} (h : o = .ok f ρ) (q : Q f ρ) : Sat o Q := ⟨f, ρ, h, q⟩
theorem Sat.imp {o : Out Fl} {Q R : Fl → En → Prop} (h : Sat o Q) (k : ∀ f ρ, Q f ρ → R f ρ) : Sat o R := let ⟨f, ρ, e, q⟩ := h; ⟨f, ρ, e, k f ρ q⟩
theorem ret_sat {b : Ss} {n : Nat} {s : List SV} {d : PyData} (h : Sat (b (s.map some ++ List.replicate n none)) fun f _ => f = .ret d) : bodyOf b n false s = .ret d [] := by
  obtain ⟨f, ρ, e, rfl⟩ := h
  exact ret_of e
/-- of a def that changes its first argument -/
theorem retP_sat {b : Ss} {n : Nat} {s : List SV} {R : PyData → List PyData → Prop} (h : Sat (b (s.map some ++ List.replicate n none)) fun f ρ => ∃ d xs r, f = .ret d ∧ ρ = some (.own xs) :: r ∧ R d xs) : ∃ d xs, bodyOf b n true s = .ret d xs ∧ R d xs := by
  obtain ⟨f, ρ, e, d, xs, r, rfl, rfl, q⟩ := h
  exact ⟨d, xs, retP_of e, q⟩
theorem sat_seq {s t : Ss} {ρ : En} {Q : Fl → En → Prop} (h : Sat (s ρ) fun f ρ' => f = .nx ∧ Sat (t ρ') Q) : Sat (sSeq s t ρ) Q := by
  obtain ⟨f, ρ', e, rfl, q⟩ := h
  obtain ⟨f2, ρ2, e2, q2⟩ := q
  exact ⟨f2, ρ2, seq_nx e e2, q2⟩
theorem sat_seqR {s t : Ss} {ρ : En} {Q : Fl → En → Prop} (h : Sat (s ρ) fun f ρ' => (f = .nx ∧ Sat (t ρ') Q) ∨ ((∃ d, f = .ret d) ∧ Q f ρ')) : Sat (sSeq s t ρ) Q := by
  obtain ⟨f, ρ', e, ⟨rfl, f2, ρ2, e2, q2⟩ | ⟨⟨d, rfl⟩, q⟩⟩ := h
  · exact ⟨f2, ρ2, seq_nx e e2, q2⟩
  · exact ⟨_, _, seq_ret e, q⟩
/-- one statement that goes on, then the rest -/
theorem sat_step {s t : Ss} {ρ ρ1 : En} {Q : Fl → En → Prop} (h : s ρ = .ok .nx ρ1) (k : Sat (t ρ1) Q) : Sat (sSeq s t ρ) Q := sat_seq ⟨_, _, h, rfl, k⟩
theorem sat_ret {s t : Ss} {ρ ρ1 : En} {d : PyData} {Q : Fl → En → Prop} (h : s ρ = .ok (.ret d) ρ1) (k : Q (.ret d) ρ1) : Sat (sSeq s t ρ) Q := ⟨_, _, seq_ret h, k⟩
theorem sat_if {t : Ts} {a b : Ss} {ρ ρ1 : En} {c : Bool} {Q : Fl → En → Prop} (h : t ρ = .ok c ρ1) (h1 : c = true → Sat (a ρ1) Q) (h2 : c = false → Sat (b ρ1) Q) : Sat (sIf t a b ρ) Q := by
  rw [sIf_ap, h]
  cases c with
  | true => exact h1 rfl
  | false => exact h2 rfl
theorem sat_for {α : Type} {D : α → PyData} {it : Ls} {g : Tg} {b : Ss} {ρ : En} {ys : List α} {Q : Fl → En → Prop} (I : List α → En → Prop) (hi : it ρ = .ok (ys.map D) ρ) (h0 : I [] ρ) (hs : ∀ pre y post ρ, ys = pre ++ y :: post → I pre ρ → Sat (turn g b (D y) ρ) fun f ρ' => f = .nx ∧ I (pre ++ [y]) ρ') (k : ∀ ρ', I ys ρ' → Q .nx ρ') : Sat (sFor it g b ρ) Q := by
  obtain ⟨ρ', e, h⟩ := forGo_inv (D := D) I h0 fun pre y post ρ e h => by
    obtain ⟨f, ρ', e, rfl, q⟩ := hs pre y post ρ e h
    exact ⟨ρ', e, q⟩
  exact ⟨_, ρ', by rw [sFor_ap, hi]; exact e, k ρ' h⟩
/-- a loop that may leave by a return -/
theorem forGo_search {α : Type} {D : α → PyData} {g : Tg} {b : Ss} {Q : Fl → En → Prop} (I : List α → En → Prop) {all : List α} (hs : ∀ pre y post ρ, all = pre ++ y :: post → I pre ρ → Sat (turn g b (D y) ρ) fun f ρ' => (f = .nx ∧ I (pre ++ [y]) ρ') ∨ ((∃ d, f = .ret d) ∧ Q f ρ')) (k : ∀ ρ', I all ρ' → Q .nx ρ') :
    ∀ (ys pre : List α) (ρ : En), all = pre ++ ys → I pre ρ → Sat (forGo g b (ys.map D) ρ) Q
  | [], pre, ρ, e, h => ⟨_, ρ, rfl, k ρ (by rw [e, List.append_nil]; exact h)⟩
  | y :: ys, pre, ρ, e, h => by
    obtain ⟨f, ρ1, e1, ⟨rfl, h1⟩ | ⟨⟨d, rfl⟩, q⟩⟩ := hs pre y ys ρ e h
    · obtain ⟨f2, ρ2, e2, h2⟩ := forGo_search I hs k ys (pre ++ [y]) ρ1 (by rw [e]; simp) h1
      refine ⟨f2, ρ2, ?_, h2⟩
      rw [List.map_cons, forGo_cons, e1]
      exact e2
    · refine ⟨_, ρ1, ?_, q⟩
      rw [List.map_cons, forGo_cons, e1]
      rfl
theorem sat_forR {α : Type} {D : α → PyData} {it : Ls} {g : Tg} {b : Ss} {ρ : En} {ys : List α} {Q : Fl → En → Prop} (I : List α → En → Prop) (hi : it ρ = .ok (ys.map D) ρ) (h0 : I [] ρ) (hs : ∀ pre y post ρ, ys = pre ++ y :: post → I pre ρ → Sat (turn g b (D y) ρ) fun f ρ' => (f = .nx ∧ I (pre ++ [y]) ρ') ∨ ((∃ d, f = .ret d) ∧ Q f ρ')) (k : ∀ ρ', I ys ρ' → Q .nx ρ') : Sat (sFor it g b ρ) Q := by
  rw [sFor_ap, hi]
  exact forGo_search I hs k ys [] ρ rfl h0
theorem sat_turn {g : Tg} {b : Ss} {x : PyData} {ρ ρ1 : En} {Q : Fl → En → Prop} (h : g x ρ = .ok () ρ1) (k : Sat (b ρ1) Q) : Sat (turn g b x ρ) Q := by
  unfold turn
  rw [h]; exact k
theorem sat_while {n : Nat} {t : Ts} {b : Ss} {ρ : En} {Q : Fl → En → Prop} (I : Nat → En → Prop) (m : Nat) (hm : m < n) (h0 : I m ρ) (hs : ∀ m ρ, I m ρ → ∃ c ρ1, t ρ = .ok c ρ1 ∧ (c = false → Q .nx ρ1) ∧ (c = true → Sat (b ρ1) fun f ρ2 => f = .nx ∧ ∃ k, k < m ∧ I k ρ2)) : Sat (sWhile n t b ρ) Q := by
  obtain ⟨ρ', e, q⟩ := whileGo_inv (t := t) (b := b) I (fun ρ => Q .nx ρ) (fun m ρ h => by
    obtain ⟨c, ρ1, e, h1, h2⟩ := hs m ρ h
    cases c with
    | false => exact .inl ⟨ρ1, e, h1 rfl⟩
    | true =>
      obtain ⟨f, ρ2, e2, rfl, k, lt, q⟩ := h2 rfl
      exact .inr ⟨ρ1, ρ2, k, e, e2, lt, q⟩) n m ρ hm h0
  exact ⟨_, ρ', e, q⟩

/-! ### values, the slots as they were -/
section
variable {ρ : En} {f g : Ex} {s t : Ts} {a b : Bool} {d x y z : PyData} {l : Ls} {xs : List PyData}
theorem t_D (h : f ρ = .ok (.bool a) ρ) : tD f ρ = .ok a ρ := by rw [tD_ap, h]; rfl
theorem t_or (h1 : s ρ = .ok a ρ) (h2 : a = false → t ρ = .ok b ρ) : tOr s t ρ = .ok (a || b) ρ := by
  rw [tOr_ap, h1]
  cases a with
  | true => rfl
  | false => exact h2 rfl
theorem t_and (h1 : s ρ = .ok a ρ) (h2 : a = true → t ρ = .ok b ρ) : tAnd s t ρ = .ok (a && b) ρ := by
  rw [tAnd_ap, h1]
  cases a with
  | false => rfl
  | true => exact h2 rfl
theorem t_not (h1 : s ρ = .ok a ρ) : tNot s ρ = .ok (!a) ρ := by rw [tNot_ap, h1]; rfl
theorem c_and (h1 : f ρ = .ok (.bool a) ρ) (h2 : a = true → g ρ = .ok (.bool b) ρ) : cAnd f g ρ = .ok (.bool (a && b)) ρ := by
  rw [cAnd_ap, h1]
  cases a with
  | false => rfl
  | true => exact h2 rfl
theorem c_or (h1 : f ρ = .ok (.bool a) ρ) (h2 : a = false → g ρ = .ok (.bool b) ρ) : cOr f g ρ = .ok (.bool (a || b)) ρ := by
  rw [cOr_ap, h1]
  cases a with
  | true => rfl
  | false => exact h2 rfl
theorem c_not (h1 : f ρ = .ok (.bool a) ρ) : cNot f ρ = .ok (.bool (!a)) ρ := by rw [cNot_ap, h1]; rfl
theorem c_bin {op : Op2} (h1 : f ρ = .ok x ρ) (h2 : g ρ = .ok y ρ) (h : op x y = some z) : cBin op f g ρ = .ok z ρ := by
  rw [cBin_ap, h1, Out.bind_ok, h2, Out.bind_ok, h]; rfl
theorem c_un {op : PyData → Option PyData} (h1 : f ρ = .ok x ρ) (h : op x = some z) : cUn op f ρ = .ok z ρ := by
  rw [cUn_ap, h1, Out.bind_ok, h]; rfl
theorem c_if (h : s ρ = .ok a ρ) (h1 : a = true → f ρ = .ok d ρ) (h2 : a = false → g ρ = .ok d ρ) : cIf s f g ρ = .ok d ρ := by
  rw [cIf_ap, h]
  cases a with
  | true => exact h1 rfl
  | false => exact h2 rfl
theorem c_call {n : Nat} {F : Fs} {as : As} {svs : List SV} {io : List PyData} (h1 : as ρ = .ok svs ρ) (h : F svs = .ret d io) (hn : svs.length = n := by rfl) : cCall n F as ρ = .ok d ρ := by
  rw [cCall_ap, h1, Out.bind_ok, if_pos hn, h]
theorem c_N (h : l ρ = .ok xs ρ) : cN l ρ = .ok (.list xs) ρ := by rw [cN_ap, h]; rfl
theorem c_tuple (h : l ρ = .ok xs ρ) : cTuple l ρ = .ok (.tuple xs) ρ := by rw [cTuple_ap, h]; rfl
theorem c_len (h : l ρ = .ok xs ρ) : cLen l ρ = .ok (.int xs.length) ρ := by rw [cLen_ap, h]; rfl
theorem l_D (h : f ρ = .ok d ρ) (h2 : seqOf d = some xs) : lD f ρ = .ok xs ρ := by rw [lD_ap, h, Out.bind_ok, h2]; rfl
theorem l_Dl (h : f ρ = .ok d ρ) (h2 : lstOf d = some xs) : lDl f ρ = .ok xs ρ := by rw [lDl_ap, h, Out.bind_ok, h2]; rfl
theorem n_sortD (h : l ρ = .ok xs ρ) (k : sortOk xs = true) : nSorted l ρ = .ok (sortD xs) ρ := by rw [nSorted_ap, h, Out.bind_ok, if_pos k]
theorem c_V {i : Nat} (h : ρ[i]? = some (some (.dat d))) : cV i ρ = .ok d ρ := by rw [cV_ap, h]
theorem a_D {as : As} {svs : List SV} (h1 : f ρ = .ok d ρ) (h2 : as ρ = .ok svs ρ) : aD f as ρ = .ok (.dat d :: svs) ρ := by rw [aD_ap, h1, Out.bind_ok, h2]; rfl
theorem c_tup (h : l ρ = .ok xs ρ) (hl : lenOk xs = true) : cTup l ρ = .ok (.tuple xs) ρ := by rw [cTup_ap, h, Out.bind_ok, if_pos hl]
theorem d_cons (h1 : f ρ = .ok d ρ) (h2 : l ρ = .ok xs ρ) : dCons f l ρ = .ok (d :: xs) ρ := by rw [dCons_ap, h1, Out.bind_ok, h2]; rfl
end
theorem ret_fz {i : Nat} {ρ : En} {xs : List PyData} (h : ρ[i]? = some (some (.own xs))) : sRet (cFzA i) ρ = .ok (.ret (.list xs)) (ρ.set i (some (.dat (.list xs)))) := by
  rw [sRet_ap, cFzA_ap, h]
  show (cFz i ρ).bind _ = _
  rw [cFz_ap, h]; rfl
theorem zipT_at : ∀ (xs : List PyData) (k : Int), zipT ((List.range xs.length).map fun (j : Nat) => .int (k + (j : Int))) xs = (xs.zipIdx).map fun p => .tuple [.int (k + (p.2 : Int)), p.1] := by
  intro xs
  have go : ∀ (xs : List PyData) (k : Int) (n : Nat), zipT ((List.range' n xs.length).map fun (j : Nat) => .int (k + (j : Int))) xs = (xs.zipIdx n).map fun p => .tuple [.int (k + (p.2 : Int)), p.1] := by
    intro xs
    induction xs with
    | nil => intro k n; rfl
    | cons x xs ih =>
      intro k n
      rw [List.length_cons, List.range'_succ, List.map_cons, zipT, ih, List.zipIdx_cons, List.map_cons]
  intro k
  rw [List.range_eq_range']
  exact go xs k 0
theorem enumT_eq (xs : List PyData) : enumT xs = (xs.zipIdx).map fun p => .tuple [.int (p.2 : Int), p.1] := by
  unfold enumT rng
  have e : ((xs.length : Int) - 0).toNat = xs.length := by omega
  rw [e, zipT_at]
  simp
theorem zipIdx_split {α : Type} {xs : List α} {A B : List (α × Nat)} {p : α × Nat} (h : xs.zipIdx = A ++ p :: B) : p.2 = A.length ∧ xs = A.map (·.1) ++ p.1 :: B.map (·.1) := by
  constructor
  · have h1 : xs.zipIdx[A.length]? = some p := by rw [h]; simp
    rw [List.getElem?_zipIdx] at h1
    cases e : xs[A.length]? with
    | none => rw [e] at h1; cases h1
    | some x => rw [e] at h1; simp at h1; rw [← h1]
  · have : xs.zipIdx.map (·.1) = xs := List.zipIdx_map_fst 0 xs
    rw [← this, h]; simp
end Mo
end
section
set_option autoImplicit false
/-! KO1: lots that hang together; the cut lemma of graphs without an induced path of four. Plain mathematics, no program in sight. -/
namespace Mo.Or
abbrev Rl := Int → Int → Bool

/-! ### sorted lists of ints -/
def leI (a b : Int) : Bool := decide (a ≤ b)
def srt (xs : List Int) : List Int := xs.mergeSort leI
theorem srt_perm (xs : List Int) : (srt xs).Perm xs := List.mergeSort_perm xs leI
theorem srt_pw (xs : List Int) : (srt xs).Pairwise (fun a b => a ≤ b) := by
  have h := List.pairwise_mergeSort (le := leI) (by intro a b c; simp only [leI, decide_eq_true_eq]; omega) (by intro a b; simp only [leI, Bool.or_eq_true, decide_eq_true_eq]; omega) xs
  exact h.imp fun {a b} h => by simpa [leI] using h
theorem srt_lt {xs : List Int} (h : xs.Nodup) : (srt xs).Pairwise (fun a b => a < b) := by
  have h1 := srt_pw xs
  have h2 : (srt xs).Nodup := (srt_perm xs).nodup_iff.mpr h
  exact (List.pairwise_and_iff.mpr ⟨h1, h2⟩).imp fun {a b} ⟨h, k⟩ => by omega
theorem lt_ext {xs ys : List Int} (hx : xs.Pairwise (fun a b => a < b)) (hy : ys.Pairwise (fun a b => a < b)) (h : ∀ x, x ∈ xs ↔ x ∈ ys) : xs = ys := by
  have nx : xs.Nodup := hx.imp fun {a b} h => by omega
  have ny : ys.Nodup := hy.imp fun {a b} h => by omega
  have p : xs.Perm ys := (List.perm_ext_iff_of_nodup nx ny).mpr h
  exact List.Perm.eq_of_pairwise (le := fun a b => a < b) (fun a b _ _ h1 h2 => by omega) hx hy p
theorem srt_id {xs : List Int} (h : xs.Pairwise (fun a b => a < b)) : srt xs = xs :=
  List.mergeSort_of_pairwise (h.imp fun {a b} h => by simp only [leI, decide_eq_true_eq]; omega)
theorem mem_srt {x : Int} {xs : List Int} : x ∈ srt xs ↔ x ∈ xs := (srt_perm xs).mem_iff
theorem srt_len (xs : List Int) : (srt xs).length = xs.length := (srt_perm xs).length_eq
theorem srt_nodup {xs : List Int} (h : xs.Nodup) : (srt xs).Nodup := (srt_perm xs).nodup_iff.mpr h

/-! ### no cut -/
/-- hangs together: each split of the works has a tie across -/
def Hangs (t : Rl) (W : List Int) : Prop := ∀ S : Int → Bool, (∃ x ∈ W, S x = true) → (∃ y ∈ W, S y = false) → ∃ x ∈ W, ∃ y ∈ W, S x = true ∧ S y = false ∧ t x y = true
theorem Hangs.perm {t : Rl} {V W : List Int} (h : Hangs t V) (e : ∀ x, x ∈ V ↔ x ∈ W) : Hangs t W := fun S ⟨x, hx, sx⟩ ⟨y, hy, sy⟩ =>
  let ⟨a, ha, b, hb, r⟩ := h S ⟨x, (e x).mpr hx, sx⟩ ⟨y, (e y).mpr hy, sy⟩
  ⟨a, (e a).mp ha, b, (e b).mp hb, r⟩
theorem hangs_one (t : Rl) (k : Int) : Hangs t [k] := fun S ⟨x, hx, sx⟩ ⟨y, hy, sy⟩ => by
  simp only [List.mem_singleton] at hx hy
  subst hx; subst hy; rw [sx] at sy; cases sy

/-- a path of four, with no other tie among them -/
def P4 (t : Rl) (a b c d : Int) : Prop := t a b = true ∧ t b c = true ∧ t c d = true ∧ t a c = false ∧ t a d = false ∧ t b d = false ∧ a ≠ c ∧ a ≠ d ∧ b ≠ d
/-- unlike, and not tied -/
def co (t : Rl) : Rl := fun x y => decide (x ≠ y) && !t x y
theorem co_true {t : Rl} {x y : Int} : co t x y = true ↔ x ≠ y ∧ t x y = false := by simp [co]
theorem co_false {t : Rl} {x y : Int} : co t x y = false ↔ x = y ∨ t x y = true := by
  by_cases h : x = y <;> cases ht : t x y <;> simp [co, h, ht]

structure Tie (t : Rl) : Prop where
  sym : ∀ x y, t x y = true → t y x = true
  irr : ∀ x, t x x = false
theorem Tie.co {t : Rl} (h : Tie t) : Tie (co t) where
  sym x y e := by
    rw [co_true] at e ⊢
    refine ⟨fun z => e.1 z.symm, ?_⟩
    cases k : t y x
    · rfl
    · have := h.sym _ _ k
      rw [e.2] at this
      cases this
  irr x := by rw [co_false]; exact .inl rfl
theorem Tie.ne {t : Rl} (h : Tie t) {x y : Int} (e : t x y = true) : x ≠ y := fun z => by
  subst z; rw [h.irr] at e; cases e
theorem Tie.symf {t : Rl} (h : Tie t) {x y : Int} (e : t x y = false) : t y x = false := by
  cases k : t y x
  · rfl
  · have := h.sym _ _ k; rw [e] at this; cases this
theorem P4.co {t : Rl} {a b c d : Int} (T : Tie t) (h : P4 (co t) a b c d) : P4 t b d a c := by
  obtain ⟨h1, h2, h3, h4, h5, h6, n1, n2, n3⟩ := h
  rw [co_true] at h1 h2 h3
  rw [co_false] at h4 h5 h6
  have k4 : t a c = true := h4.resolve_left n1
  have k5 : t a d = true := h5.resolve_left n2
  have k6 : t b d = true := h6.resolve_left n3
  exact ⟨k6, T.sym _ _ k5, k4, T.symf h1.2, h2.2, T.symf h3.2, fun z => h1.1 z.symm, h2.1, fun z => h3.1 z.symm⟩

/-- a split of the works with no tie across -/
def Cut (t : Rl) (W : List Int) : Prop := ∃ S : Int → Bool, (∃ x ∈ W, S x = true) ∧ (∃ y ∈ W, S y = false) ∧ ∀ x ∈ W, ∀ y ∈ W, S x = true → S y = false → t x y = false
theorem Cut.not_hangs {t : Rl} {W : List Int} (c : Cut t W) : ¬ Hangs t W := fun h => by
  obtain ⟨S, hx, hy, n⟩ := c
  obtain ⟨x, mx, y, my, sx, sy, e⟩ := h S hx hy
  rw [n x mx y my sx sy] at e; cases e
theorem cut_of_not {t : Rl} {W : List Int} (h : ¬ Hangs t W) : Cut t W := by
  refine Classical.byContradiction fun c => h fun S hx hy => Classical.byContradiction fun n => c ⟨S, hx, hy, fun x mx y my sx sy => ?_⟩
  cases k : t x y
  · rfl
  · exact absurd ⟨x, mx, y, my, sx, sy, k⟩ n

/-- one more work beside works that have a cut -/
theorem cut_step {t : Rl} (T : Tie t) {W : List Int} {v : Int} (nv : v ∉ W) (hp : ∀ a b c d, a ∈ v :: W → b ∈ v :: W → c ∈ v :: W → d ∈ v :: W → ¬ P4 t a b c d) (c : Cut t W) : Cut t (v :: W) ∨ Cut (co t) (v :: W) := by
  obtain ⟨S, ⟨x0, mx0, sx0⟩, ⟨y0, my0, sy0⟩, hS⟩ := c
  have hne : ∀ {x}, x ∈ W → x ≠ v := fun m e => nv (e ▸ m)
  have hS' : ∀ x ∈ W, ∀ y ∈ W, S x = false → S y = true → t x y = false := fun x mx y my sx sy => T.symf (hS y my x mx sy sx)
  -- no tie with one side
  by_cases hA : ∃ a ∈ W, S a = true ∧ t v a = true
  case neg =>
    refine .inl ⟨fun x => S x && decide (x ≠ v), ⟨x0, .tail _ mx0, by simp [sx0, hne mx0]⟩, ⟨v, .head _, by simp⟩, ?_⟩
    intro x mx y my sx sy
    simp only [Bool.and_eq_true, decide_eq_true_eq] at sx
    rcases List.mem_cons.mp mx with rfl | mx'
    · exact absurd rfl sx.2
    rcases List.mem_cons.mp my with rfl | my'
    · cases k : t x y
      · rfl
      · exact absurd ⟨x, mx', sx.1, T.sym _ _ k⟩ hA
    · have : S y = false := by simpa [hne my'] using sy
      exact hS x mx' y my' sx.1 this
  by_cases hB : ∃ b ∈ W, S b = false ∧ t v b = true
  case neg =>
    refine .inl ⟨fun x => !S x && decide (x ≠ v), ⟨y0, .tail _ my0, by simp [sy0, hne my0]⟩, ⟨v, .head _, by simp⟩, ?_⟩
    intro x mx y my sx sy
    simp only [Bool.and_eq_true, decide_eq_true_eq, Bool.not_eq_true'] at sx
    rcases List.mem_cons.mp mx with rfl | mx'
    · exact absurd rfl sx.2
    rcases List.mem_cons.mp my with rfl | my'
    · cases k : t x y
      · rfl
      · exact absurd ⟨x, mx', sx.1, T.sym _ _ k⟩ hB
    · have : S y = true := by simpa [hne my'] using sy
      exact hS' x mx' y my' sx.1 this
  obtain ⟨a, ma, sa, ta⟩ := hA
  obtain ⟨b, mb, sb, tb⟩ := hB
  by_cases hu : ∃ u ∈ W, t v u = false
  case neg =>
    refine .inr ⟨fun x => decide (x = v), ⟨v, .head _, by simp⟩, ⟨a, .tail _ ma, by simp [hne ma]⟩, ?_⟩
    intro x mx y my sx sy
    have ex : x = v := by simpa using sx
    subst ex
    have ny : y ≠ x := by simpa using sy
    rcases List.mem_cons.mp my with rfl | my'
    · exact absurd rfl ny
    · rw [co_false]
      refine .inr ?_
      cases k : t x y
      · exact absurd ⟨y, my', k⟩ hu
      · rfl
  obtain ⟨u, mu, tu⟩ := hu
  -- the side of u, its part with no tie to v
  have main : ∀ R : Int → Bool, (∀ x ∈ W, ∀ y ∈ W, R x = true → R y = false → t x y = false) → R u = true → (∃ b ∈ W, R b = false ∧ t v b = true) → (∃ a ∈ W, R a = true ∧ t v a = true) → Cut t (v :: W) ∨ Cut (co t) (v :: W) := by
    intro R hR ru ⟨b, mb, rb, tb⟩ _
    refine .inl ⟨fun x => R x && !t v x && decide (x ≠ v), ⟨u, .tail _ mu, by simp [ru, tu, hne mu]⟩, ⟨v, .head _, by simp⟩, ?_⟩
    intro x mx y my sx sy
    simp only [Bool.and_eq_true, decide_eq_true_eq, Bool.not_eq_true'] at sx
    obtain ⟨⟨rx, tx⟩, nx⟩ := sx
    rcases List.mem_cons.mp mx with rfl | mx'
    · exact absurd rfl nx
    rcases List.mem_cons.mp my with rfl | my'
    · exact T.symf tx
    cases ry : R y
    · exact hR x mx' y my' rx ry
    · have ty : t v y = true := by
        cases k : t v y
        · simp [ry, k, hne my'] at sy
        · rfl
      cases k : t x y
      · rfl
      · refine absurd ⟨k, T.sym _ _ ty, tb, T.symf tx, hR x mx' b mb rx rb, hR y my' b mb ry rb, nx, ?_, ?_⟩ (hp x y v b (.tail _ mx') (.tail _ my') (.head _) (.tail _ mb))
        · intro e; subst e; rw [rx] at rb; cases rb
        · intro e; subst e; rw [ry] at rb; cases rb
  cases su : S u
  · exact main (fun x => !S x) (fun x mx y my sx sy => hS' x mx y my (by simpa using sx) (by simpa using sy)) (by simp [su]) ⟨a, ma, by simp [sa], ta⟩ ⟨b, mb, by simp [sb], tb⟩
  · exact main S hS su ⟨b, mb, sb, tb⟩ ⟨a, ma, sa, ta⟩

theorem Cut.coco {t : Rl} {W : List Int} (c : Cut (co (co t)) W) : Cut t W := by
  obtain ⟨S, h1, h2, h⟩ := c
  refine ⟨S, h1, h2, fun x mx y my sx sy => ?_⟩
  have := h x mx y my sx sy
  rw [co_false, co_true] at this
  rcases this with e | e
  · subst e; rw [sx] at sy; cases sy
  · exact e.2

theorem P4free_co {t : Rl} (T : Tie t) {W : List Int} (hp : ∀ a b c d, a ∈ W → b ∈ W → c ∈ W → d ∈ W → ¬ P4 t a b c d) : ∀ a b c d, a ∈ W → b ∈ W → c ∈ W → d ∈ W → ¬ P4 (co t) a b c d :=
  fun a b c d ha hb hc hd h => hp b d a c hb hd ha hc (h.co T)

/-- two works or more without a path of four: they, or what is not tied among them, have a cut -/
theorem cut_ex {t : Rl} (T : Tie t) : ∀ (W : List Int), W.Nodup → 2 ≤ W.length → (∀ a b c d, a ∈ W → b ∈ W → c ∈ W → d ∈ W → ¬ P4 t a b c d) → Cut t W ∨ Cut (co t) W
  | [], _, h, _ => by simp at h
  | [_], _, h, _ => by simp at h
  | [v, u], hn, _, _ => by
    have ne : v ≠ u := by simpa using hn
    cases k : t v u
    · refine .inl ⟨fun x => decide (x = v), ⟨v, by simp, by simp⟩, ⟨u, by simp, by simp [Ne.symm ne]⟩, ?_⟩
      intro x mx y my sx sy
      have ex : x = v := by simpa using sx
      have ey : y ≠ v := by simpa using sy
      subst ex
      simp only [List.mem_cons, List.not_mem_nil, or_false] at my
      rcases my with rfl | rfl
      · exact absurd rfl ey
      · exact k
    · refine .inr ⟨fun x => decide (x = v), ⟨v, by simp, by simp⟩, ⟨u, by simp, by simp [Ne.symm ne]⟩, ?_⟩
      intro x mx y my sx sy
      have ex : x = v := by simpa using sx
      have ey : y ≠ v := by simpa using sy
      subst ex
      simp only [List.mem_cons, List.not_mem_nil, or_false] at my
      rcases my with rfl | rfl
      · exact absurd rfl ey
      · rw [co_false]; exact .inr k
  | v :: u :: w :: W, hn, _, hp => by
    have hn2 := (List.nodup_cons.mp hn)
    rcases cut_ex T (u :: w :: W) hn2.2 (by simp) (fun a b c d ha hb hc hd => hp a b c d (.tail _ ha) (.tail _ hb) (.tail _ hc) (.tail _ hd)) with c | c
    · exact cut_step T hn2.1 hp c
    · rcases cut_step T.co hn2.1 (P4free_co T hp) c with c | c
      · exact .inr c
      · exact .inl (c.coco)
end Mo.Or
end
section
set_option autoImplicit false
/-! KO2: the lots of works that hang together, as the program finds them. -/
namespace Mo.Or

theorem nodup_len {α : Type} [DecidableEq α] : ∀ {xs ys : List α}, xs.Nodup → (∀ x ∈ xs, x ∈ ys) → xs.length ≤ ys.length
  | [], _, _, _ => Nat.zero_le _
  | x :: xs, ys, h, m => by
    have h2 := List.nodup_cons.mp h
    have hx : x ∈ ys := m x (.head _)
    have : xs.length ≤ (ys.erase x).length := nodup_len h2.2 fun y hy => by
      have hne : y ≠ x := fun e => h2.1 (e ▸ hy)
      exact (List.mem_erase_of_ne hne).mpr (m y (.tail _ hy))
    rw [List.length_erase_of_mem hx] at this
    have := List.length_pos_of_mem hx
    simp only [List.length_cons]; omega

/-! ### growing one lot -/
def more (t : Rl) (left got : List Int) (x : Int) : List Int := left.filter fun late => !got.contains late && t x late
def grow (t : Rl) (left : List Int) : Nat → List Int → Nat → List Int
  | 0, got, _ => got
  | n + 1, got, turn => match got[turn]? with
    | none => got
    | some x => grow t left n (got ++ more t left got x) (turn + 1)
structure Grown (t : Rl) (left : List Int) (x0 : Int) (got : List Int) (turn : Nat) : Prop where
  nd : got.Nodup
  sub : ∀ x ∈ got, x ∈ left
  le : turn ≤ got.length
  done : ∀ i a, i < turn → got[i]? = some a → ∀ y ∈ left, t a y = true → y ∈ got
  from_ : ∀ S : Int → Bool, S x0 = true → (∀ a ∈ left, ∀ b ∈ left, S a = true → t a b = true → S b = true) → ∀ a ∈ got, S a = true
  has : x0 ∈ got
theorem mem_more {t : Rl} {left got : List Int} {x y : Int} : y ∈ more t left got x ↔ y ∈ left ∧ y ∉ got ∧ t x y = true := by
  unfold more
  rw [List.mem_filter, Bool.and_eq_true, Bool.not_eq_true', List.contains_eq_mem, decide_eq_false_iff_not]
theorem Grown.step {t : Rl} {left got : List Int} {x0 x : Int} {turn : Nat} (ln : left.Nodup) (g : Grown t left x0 got turn) (h : got[turn]? = some x) : Grown t left x0 (got ++ more t left got x) (turn + 1) where
  nd := by
    refine List.nodup_append.mpr ⟨g.nd, ln.sublist List.filter_sublist, ?_⟩
    intro a ha b hb e
    subst e
    exact (mem_more.mp hb).2.1 ha
  sub y hy := by
    rcases List.mem_append.mp hy with h | h
    · exact g.sub y h
    · exact (mem_more.mp h).1
  le := by
    have := (List.getElem?_eq_some_iff.mp h).1
    rw [List.length_append]; omega
  done i a hi ha y my ty := by
    have l1 := (List.getElem?_eq_some_iff.mp h).1
    rw [List.getElem?_append_left (by omega)] at ha
    refine List.mem_append.mpr ?_
    by_cases e : i = turn
    · subst e
      rw [h] at ha
      cases ha
      by_cases hs : y ∈ got
      · exact .inl hs
      · exact .inr (mem_more.mpr ⟨my, hs, ty⟩)
    · exact .inl (g.done i a (by omega) ha y my ty)
  from_ S s0 hS a ha := by
    rcases List.mem_append.mp ha with h1 | h1
    · exact g.from_ S s0 hS a h1
    · have hx := List.mem_of_getElem? h
      have := mem_more.mp h1
      exact hS x (g.sub x hx) a this.1 (g.from_ S s0 hS x hx) this.2.2
  has := List.mem_append.mpr (.inl g.has)
theorem grow_spec {t : Rl} {left : List Int} {x0 : Int} (ln : left.Nodup) : ∀ (n : Nat) (got : List Int) (turn : Nat), Grown t left x0 got turn → left.length - turn < n → ∃ out, grow t left n got turn = out ∧ Grown t left x0 out out.length
  | 0, _, _, _, h => by omega
  | n + 1, got, turn, g, h => by
    have hl := nodup_len g.nd g.sub
    unfold grow
    cases e : got[turn]? with
    | none =>
      have := List.getElem?_eq_none_iff.mp e
      have : turn = got.length := by have := g.le; omega
      subst this
      exact ⟨_, rfl, g⟩
    | some x =>
      have l1 := (List.getElem?_eq_some_iff.mp e).1
      exact grow_spec ln n _ _ (g.step ln e) (by omega)
theorem Grown.start {t : Rl} {left : List Int} {x0 : Int} (h : x0 ∈ left) : Grown t left x0 [x0] 0 where
  nd := by simp
  sub x hx := by simp only [List.mem_singleton] at hx; subst hx; exact h
  le := Nat.zero_le _
  done i a hi := by omega
  from_ S s0 _ a ha := by simp only [List.mem_singleton] at ha; subst ha; exact s0
  has := by simp
theorem Grown.closed {t : Rl} {left got : List Int} {x0 : Int} (g : Grown t left x0 got got.length) {a y : Int} (ha : a ∈ got) (my : y ∈ left) (ty : t a y = true) : y ∈ got := by
  obtain ⟨i, hi⟩ := List.mem_iff_getElem?.mp ha
  exact g.done i a (List.getElem?_eq_some_iff.mp hi).1 hi y my ty
theorem Grown.hangs {t : Rl} (T : Tie t) {left got : List Int} {x0 : Int} (g : Grown t left x0 got got.length) : Hangs t got := by
  intro S ⟨x, mx, sx⟩ ⟨y, my, sy⟩
  refine Classical.byContradiction fun n => ?_
  have hS : ∀ a ∈ got, ∀ b ∈ got, S a = true → S b = false → t a b = false := fun a ha b hb sa sb => by
    cases k : t a b
    · rfl
    · exact absurd ⟨a, ha, b, hb, sa, sb, k⟩ n
  have go : ∀ R : Int → Bool, (∀ a ∈ got, ∀ b ∈ got, R a = true → R b = false → t a b = false) → R x0 = true → ∀ a ∈ got, R a = true := by
    intro R hR r0 a ha
    have := g.from_ (fun z => R z || !got.contains z) (by simp [r0]) (fun p hp q hq rp tq => by
      by_cases mq : q ∈ got
      · have mp : p ∈ got := g.closed mq hp (T.sym _ _ tq)
        have rp' : R p = true := by simpa [mp] using rp
        cases rq : R q
        · rw [hR p mp q mq rp' rq] at tq; cases tq
        · rfl
      · simp [mq]) a ha
    simpa [ha] using this
  cases s0 : S x0
  · have := go (fun z => !S z) (fun a ha b hb sa sb => T.symf (hS b hb a ha (by simpa using sb) (by simpa using sa))) (by simp [s0]) x mx
    rw [sx] at this; cases this
  · have := go S hS s0 y my
    rw [sy] at this; cases this

/-! ### all lots -/
def lots (t : Rl) : Nat → List Int → List (List Int)
  | 0, _ => []
  | _ + 1, [] => []
  | n + 1, x :: xs => srt (grow t (x :: xs) (xs.length + 2) [x] 0) :: lots t n ((x :: xs).filter fun w => !(grow t (x :: xs) (xs.length + 2) [x] 0).contains w)
structure Lots (t : Rl) (W : List Int) (L : List (List Int)) : Prop where
  perm : L.flatten.Perm W
  srtd : ∀ l ∈ L, l.Pairwise (fun a b => a < b)
  ne : ∀ l ∈ L, l ≠ []
  apart : L.Pairwise fun l m => ∀ x ∈ l, ∀ y ∈ m, t x y = false
  hang : ∀ l ∈ L, Hangs t l
def Heads (L : List (List Int)) : Prop := L.Pairwise fun l m => l.headD 0 < m.headD 0
theorem headD_mem {l : List Int} (h : l ≠ []) : l.headD 0 ∈ l := by
  cases l with
  | nil => exact absurd rfl h
  | cons a r => exact .head _
theorem head_le {l : List Int} (h : l.Pairwise (fun a b => a < b)) {x : Int} (hx : x ∈ l) : l.headD 0 ≤ x := by
  cases l with
  | nil => cases hx
  | cons a r =>
    rcases List.mem_cons.mp hx with rfl | hx
    · exact Int.le_refl _
    · have := (List.pairwise_cons.mp h).1 x hx
      simp only [List.headD_cons]; omega
theorem Lots.mem {t : Rl} {W : List Int} {L : List (List Int)} (h : Lots t W L) {x : Int} : x ∈ W ↔ ∃ l ∈ L, x ∈ l := by
  rw [← h.perm.mem_iff, List.mem_flatten]
theorem filter_split (xs : List Int) (p : Int → Bool) : (xs.filter p ++ xs.filter fun x => !p x).Perm xs := List.filter_append_perm p xs
theorem lots_spec {t : Rl} (T : Tie t) : ∀ (n : Nat) (W : List Int), W.length ≤ n → W.Pairwise (fun a b => a < b) → Lots t W (lots t n W) ∧ Heads (lots t n W)
  | 0, W, h, _ => by
    have : W = [] := List.length_eq_zero_iff.mp (by omega)
    subst this
    exact ⟨⟨.refl _, (fun _ h => nomatch h), (fun _ h => nomatch h), .nil, (fun _ h => nomatch h)⟩, .nil⟩
  | n + 1, [], _, _ => ⟨⟨.refl _, (fun _ h => nomatch h), (fun _ h => nomatch h), .nil, (fun _ h => nomatch h)⟩, .nil⟩
  | n + 1, x :: xs, hn, hp => by
    have ln : (x :: xs).Nodup := hp.imp fun {a b} h => by omega
    obtain ⟨out, e, g⟩ := grow_spec (t := t) ln (xs.length + 2) [x] 0 (Grown.start (.head _)) (by simp only [List.length_cons]; omega)
    unfold lots
    rw [e]
    have fl : ((x :: xs).filter fun w => !out.contains w) = xs.filter fun w => !out.contains w := by
      rw [List.filter_cons_of_neg]
      simp [g.has]
    obtain ⟨IH, IHh⟩ := lots_spec T n ((x :: xs).filter fun w => !out.contains w) (by
      rw [fl]
      have := List.length_filter_le (fun w => !out.contains w) xs
      simp only [List.length_cons] at hn; omega) (hp.filter _)
    have hd : (srt out).headD 0 = x := by
      have m := mem_srt.mpr g.has
      have h1 := head_le (srt_lt g.nd) m
      have h2 := headD_mem (List.ne_nil_of_mem m)
      have h3 := g.sub _ (mem_srt.mp h2)
      rcases List.mem_cons.mp h3 with h | h
      · exact h
      · have := (List.pairwise_cons.mp hp).1 _ h
        omega
    have out_perm : out.Perm ((x :: xs).filter fun w => out.contains w) := by
      refine (List.perm_ext_iff_of_nodup g.nd (ln.sublist List.filter_sublist)).mpr fun a => ?_
      rw [List.mem_filter]
      simp only [List.contains_eq_mem, decide_eq_true_eq]
      exact ⟨fun h => ⟨g.sub a h, h⟩, fun h => h.2⟩
    refine ⟨⟨?_, ?_, ?_, ?_, ?_⟩, ?_⟩
    · rw [List.flatten_cons]
      exact ((((srt_perm out).trans out_perm).append IH.perm)).trans (filter_split _ _)
    · intro l hl
      rcases List.mem_cons.mp hl with rfl | hl
      · exact srt_lt g.nd
      · exact IH.srtd l hl
    · intro l hl
      rcases List.mem_cons.mp hl with rfl | hl
      · exact List.ne_nil_of_mem (mem_srt.mpr g.has)
      · exact IH.ne l hl
    · refine List.pairwise_cons.mpr ⟨fun m hm a ha y hy => ?_, IH.apart⟩
      have hy2 := IH.mem.mpr ⟨m, hm, hy⟩
      rw [List.mem_filter] at hy2
      cases k : t a y
      · rfl
      · have := g.closed (mem_srt.mp ha) hy2.1 k
        simp [this] at hy2
    · intro l hl
      rcases List.mem_cons.mp hl with rfl | hl
      · exact (g.hangs T).perm fun _ => mem_srt.symm
      · exact IH.hang l hl
    · refine List.pairwise_cons.mpr ⟨fun m hm => ?_, IHh⟩
      rw [hd]
      have h1 := headD_mem (IH.ne m hm)
      have h2 := IH.mem.mpr ⟨m, hm, h1⟩
      rw [fl, List.mem_filter] at h2
      exact (List.pairwise_cons.mp hp).1 _ h2.1

/-! ### there is one way alone -/
theorem pw_mem {α : Type} {R : α → α → Prop} (sym : ∀ x y, R x y → R y x) : ∀ {L : List α}, L.Pairwise R → ∀ {x y}, x ∈ L → y ∈ L → x ≠ y → R x y
  | [], _, _, _, h, _, _ => nomatch h
  | a :: L, h, x, y, hx, hy, ne => by
    obtain ⟨h1, h2⟩ := List.pairwise_cons.mp h
    rcases List.mem_cons.mp hx with rfl | hx'
    · rcases List.mem_cons.mp hy with rfl | hy'
      · exact absurd rfl ne
      · exact h1 _ hy'
    · rcases List.mem_cons.mp hy with rfl | hy'
      · exact sym _ _ (h1 _ hx')
      · exact pw_mem sym h2 hx' hy' ne
theorem key_ext {α : Type} {f : α → Int} : ∀ {L M : List α}, L.Pairwise (fun a b => f a < f b) → M.Pairwise (fun a b => f a < f b) → (∀ x, x ∈ L ↔ x ∈ M) → L = M := by
  intro L M hL hM h
  have nL : L.Nodup := hL.imp fun {a b} h e => by subst e; omega
  have nM : M.Nodup := hM.imp fun {a b} h e => by subst e; omega
  exact List.Perm.eq_of_pairwise (le := fun a b => f a < f b) (fun a b _ _ h1 h2 => by omega) hL hM (by
    classical exact (List.perm_ext_iff_of_nodup nL nM).mpr h)
theorem Lots.tied {t : Rl} (T : Tie t) {W : List Int} {L : List (List Int)} (h : Lots t W L) {l : List Int} (hl : l ∈ L) {a b : Int} (ha : a ∈ l) (hb : b ∈ W) (e : t a b = true) : b ∈ l := by
  obtain ⟨m, hm, bm⟩ := h.mem.mp hb
  refine Classical.byContradiction fun n => ?_
  have ne : l ≠ m := fun z => n (z ▸ bm)
  have := pw_mem (R := fun l m => ∀ x ∈ l, ∀ y ∈ m, t x y = false) (fun x y h a ha b hb => T.symf (h b hb a ha)) h.apart hl hm ne a ha b bm
  rw [e] at this; cases this
theorem Lots.sub {t : Rl} (T : Tie t) {W : List Int} {L M : List (List Int)} (h : Lots t W L) (k : Lots t W M) {l : List Int} (hl : l ∈ L) : l ∈ M := by
  obtain ⟨x, hx⟩ := List.exists_mem_of_ne_nil l (h.ne l hl)
  obtain ⟨m, hm, xm⟩ := k.mem.mp (h.mem.mpr ⟨l, hl, hx⟩)
  have key : ∀ {L M : List (List Int)} {l m : List Int}, Lots t W L → Lots t W M → l ∈ L → m ∈ M → x ∈ l → x ∈ m → ∀ y ∈ l, y ∈ m := by
    intro L M l m h k hl hm hx xm y hy
    refine Classical.byContradiction fun n => ?_
    obtain ⟨a, ha, b, hb, sa, sb, e⟩ := h.hang l hl (fun z => m.contains z) ⟨x, hx, by simp [xm]⟩ ⟨y, hy, by simp [n]⟩
    have := k.tied T hm (by simpa using sa) (h.mem.mpr ⟨l, hl, hb⟩) e
    simp [this] at sb
  have : l = m := lt_ext (h.srtd l hl) (k.srtd m hm) fun y => ⟨key h k hl hm hx xm y, key k h hm hl xm hx y⟩
  exact this ▸ hm
theorem Lots.unique {t : Rl} (T : Tie t) {W : List Int} {L M : List (List Int)} (h : Lots t W L) (k : Lots t W M) (hh : Heads L) (kh : Heads M) : L = M :=
  key_ext (f := fun l : List Int => l.headD 0) hh kh fun _ => ⟨h.sub T k, k.sub T h⟩
theorem Lots.nodup {t : Rl} {W : List Int} {L : List (List Int)} (hW : W.Nodup) (h : Lots t W L) : L.Nodup := by
  have nd := h.perm.nodup_iff.mpr hW
  have ne := h.ne
  clear h hW
  induction L with
  | nil => exact .nil
  | cons l L ih =>
    rw [List.flatten_cons, List.nodup_append] at nd
    refine List.nodup_cons.mpr ⟨fun hl => ?_, ih nd.2.1 fun m hm => ne m (.tail _ hm)⟩
    have h1 := headD_mem (ne l (.head _))
    exact nd.2.2 _ h1 _ (List.mem_flatten.mpr ⟨l, hl, h1⟩) rfl
theorem Lots.perm_of {t : Rl} (T : Tie t) {W : List Int} {L M : List (List Int)} (hW : W.Nodup) (h : Lots t W L) (k : Lots t W M) : L.Perm M :=
  (List.perm_ext_iff_of_nodup (h.nodup hW) (k.nodup hW)).mpr fun _ => ⟨h.sub T k, k.sub T h⟩
theorem more_congr {t u : Rl} (e : ∀ x y, x ≠ y → t x y = u x y) {left got : List Int} {x : Int} (h : x ∈ got) : more t left got x = more u left got x := by
  refine List.filter_congr fun y _ => ?_
  by_cases z : x = y
  · subst z; simp [h]
  · rw [e x y z]
theorem grow_congr {t u : Rl} (e : ∀ x y, x ≠ y → t x y = u x y) {left : List Int} : ∀ (n : Nat) (got : List Int) (turn : Nat), grow t left n got turn = grow u left n got turn
  | 0, _, _ => rfl
  | n + 1, got, turn => by
    unfold grow
    cases h : got[turn]? with
    | none => rfl
    | some x =>
      show grow t left n _ _ = grow u left n _ _
      rw [more_congr e (List.mem_of_getElem? h), grow_congr e]
theorem lots_congr {t u : Rl} (e : ∀ x y, x ≠ y → t x y = u x y) : ∀ (n : Nat) (W : List Int), lots t n W = lots u n W
  | 0, _ => rfl
  | _ + 1, [] => rfl
  | n + 1, x :: xs => by
    unfold lots
    rw [grow_congr e, lots_congr e]
/-- one lot: they hang together -/
theorem Lots.one {t : Rl} {W l : List Int} (h : Lots t W [l]) : Hangs t W :=
  (h.hang l (.head _)).perm fun x => by rw [← h.perm.mem_iff]; simp
theorem Lots.many {t : Rl} (T : Tie t) {W : List Int} {L : List (List Int)} (hW : W.Nodup) (h : Lots t W L) (n : 2 ≤ L.length) : Cut t W := by
  match L, n with
  | l :: m :: R, _ =>
    have h1 := headD_mem (h.ne l (.head _))
    have h2 := headD_mem (h.ne m (.tail _ (.head _)))
    have nd : (l ++ (m ++ R.flatten)).Nodup := by simpa using h.perm.nodup_iff.mpr hW
    refine ⟨fun x => l.contains x, ⟨_, h.mem.mpr ⟨l, .head _, h1⟩, by simpa using h1⟩, ⟨_, h.mem.mpr ⟨m, .tail _ (.head _), h2⟩, ?_⟩, ?_⟩
    · have : m.headD 0 ∉ l := fun hm => (List.nodup_append.mp nd).2.2 _ hm _ (List.mem_append.mpr (.inl h2)) rfl
      simpa using this
    · intro x mx y my sx sy
      cases k : t x y
      · rfl
      · have := h.tied T (.head _) (by simpa using sx) my k
        simp [this] at sy
end Mo.Or
end
section
set_option autoImplicit false
/-! KO3: makings of orders: each order without an N has one, an order with an N none, and there is one alone. -/
namespace Mo.Or
inductive Nd where
  | work (k : Int)
  | comp (b : Bool) (ps : List Nd)
mutual
def Nd.works : Nd → List Int
  | .work k => [k]
  | .comp _ ps => worksL ps
def worksL : List Nd → List Int
  | [] => []
  | p :: r => p.works ++ worksL r
end
def Nd.isC (c : Bool) : Nd → Bool
  | .work _ => false
  | .comp b _ => b == c
def Nd.least (p : Nd) : Int := (srt p.works).headD 0
theorem worksL_eq (ps : List Nd) : worksL ps = (ps.map Nd.works).flatten := by
  induction ps with
  | nil => rfl
  | cons p r ih => rw [worksL, ih, List.map_cons, List.flatten_cons]
theorem mem_worksL {ps : List Nd} {x : Int} : x ∈ worksL ps ↔ ∃ p ∈ ps, x ∈ p.works := by
  rw [worksL_eq, List.mem_flatten]
  constructor
  · rintro ⟨l, hl, hx⟩
    obtain ⟨p, hp, rfl⟩ := List.mem_map.mp hl
    exact ⟨p, hp, hx⟩
  · rintro ⟨p, hp, hx⟩
    exact ⟨_, List.mem_map.mpr ⟨p, hp, rfl⟩, hx⟩
/-- the written form: unlike words one in another, the parts of a beside by their least works -/
inductive Canon : Nd → Prop
  | work (k : Int) : Canon (.work k)
  | comp (b : Bool) (ps : List Nd) (n : 2 ≤ ps.length) (h : ∀ p ∈ ps, Canon p) (w : ∀ p ∈ ps, p.isC b = false) (r : b = false → ps.Pairwise fun p q => p.least < q.least) : Canon (.comp b ps)
/-- r is what the making tells -/
inductive Tells (r : Rl) : Nd → Prop
  | work (k : Int) : Tells r (.work k)
  | comp (b : Bool) (ps : List Nd) (h : ∀ p ∈ ps, Tells r p) (w : ps.Pairwise fun p q => ∀ x ∈ p.works, ∀ y ∈ q.works, r x y = b ∧ r y x = false) : Tells r (.comp b ps)
theorem Canon.ne {p : Nd} (h : Canon p) : p.works ≠ [] := by
  induction h with
  | work k => simp [Nd.works]
  | comp b ps n h w r ih =>
    match ps, n with
    | p :: q :: ps, _ =>
      have := ih p (.head _)
      simp [Nd.works, worksL, this]
def free (r : Rl) : Rl := fun x y => !r x y && !r y x
def paired (r : Rl) : Rl := fun x y => !free r x y
theorem paired_true {r : Rl} {x y : Int} : paired r x y = true ↔ r x y = true ∨ r y x = true := by
  unfold paired free
  cases r x y <;> cases r y x <;> simp
theorem paired_false {r : Rl} {x y : Int} : paired r x y = false ↔ r x y = false ∧ r y x = false := by
  unfold paired free
  cases r x y <;> cases r y x <;> simp
theorem tie_paired {r : Rl} (irr : ∀ x, r x x = false) : Tie (paired r) where
  sym x y e := by rw [paired_true] at e ⊢; exact e.symm
  irr x := by rw [paired_false]; exact ⟨irr x, irr x⟩
theorem free_co {r : Rl} : ∀ x y, x ≠ y → free r x y = co (paired r) x y := fun x y ne => by
  simp [co, paired, ne]

/-! ### works in the order of the lots ahead of them -/
def cnt (r : Rl) (L : List (List Int)) (l : List Int) : Nat := (L.filter fun o => r (o.headD 0) (l.headD 0)).length
def bySz (r : Rl) (L : List (List Int)) : List (List Int) := L.mergeSort fun l m => decide (cnt r L l ≤ cnt r L m)
theorem bySz_perm (r : Rl) (L : List (List Int)) : (bySz r L).Perm L := List.mergeSort_perm _ _
theorem bySz_pw (r : Rl) (L : List (List Int)) : (bySz r L).Pairwise fun l m => cnt r L l ≤ cnt r L m := by
  have := List.pairwise_mergeSort (le := fun l m => decide (cnt r L l ≤ cnt r L m)) (by intro a b c; simp only [decide_eq_true_eq]; omega) (by intro a b; simp only [Bool.or_eq_true, decide_eq_true_eq]; omega) L
  exact this.imp fun h => by simpa using h
theorem cnt_perm {r : Rl} {L M : List (List Int)} (h : L.Perm M) (l : List Int) : cnt r L l = cnt r M l := (h.filter _).length_eq
/-- one is behind another, as a whole -/
def Before (r : Rl) (l m : List Int) : Prop := ∀ x ∈ l, ∀ y ∈ m, r x y = true ∧ r y x = false
theorem cnt_at {r : Rl} (irr : ∀ x, r x x = false) {pre post : List (List Int)} {l : List Int} (ne : ∀ m ∈ pre ++ l :: post, m ≠ []) (h : (pre ++ l :: post).Pairwise (Before r)) : cnt r (pre ++ l :: post) l = pre.length := by
  unfold cnt
  obtain ⟨_, h2, h3⟩ := List.pairwise_append.mp h
  have hl := headD_mem (ne l (List.mem_append.mpr (.inr (.head _))))
  have h2 := (List.pairwise_cons.mp h2).1
  rw [List.filter_append, List.filter_cons_of_neg (by simp only [irr, Bool.false_eq_true, not_false_eq_true]), List.filter_eq_self.mpr, List.filter_eq_nil_iff.mpr, List.append_nil]
  · intro m hm
    have := (h2 m hm _ hl _ (headD_mem (ne m (List.mem_append.mpr (.inr (.tail _ hm)))))).2
    rw [this]; exact Bool.false_ne_true
  · intro m hm
    exact (h3 m hm l (.head _) _ (headD_mem (ne m (List.mem_append.mpr (.inl hm)))) _ hl).1
theorem pw_split {α : Type} {R : α → α → Prop} : ∀ {L : List α}, (∀ pre x mid y post, L = pre ++ x :: (mid ++ y :: post) → R x y) → L.Pairwise R
  | [], _ => .nil
  | a :: L, h => List.pairwise_cons.mpr ⟨fun b hb => by
      obtain ⟨s, t, e⟩ := List.append_of_mem hb
      exact h [] a s b t (by rw [e]; rfl), pw_split fun pre x mid y post e => h (a :: pre) x mid y post (by rw [e]; rfl)⟩
theorem cnt_pw {r : Rl} (irr : ∀ x, r x x = false) {L : List (List Int)} (ne : ∀ m ∈ L, m ≠ []) (h : L.Pairwise (Before r)) : L.Pairwise fun l m => cnt r L l < cnt r L m := by
  refine pw_split fun pre x mid y post e => ?_
  subst e
  have e2 : pre ++ x :: (mid ++ y :: post) = (pre ++ x :: mid) ++ y :: post := by simp
  rw [cnt_at irr ne h]
  rw [e2] at ne h ⊢
  rw [cnt_at irr ne h]
  simp only [List.length_append, List.length_cons]; omega
theorem bySz_of {r : Rl} (irr : ∀ x, r x x = false) {L M : List (List Int)} (ne : ∀ m ∈ L, m ≠ []) (h : L.Pairwise (Before r)) (p : M.Perm L) : bySz r M = L := by
  have h1 := cnt_pw irr ne h
  have h2 := bySz_pw r M
  have p2 : (bySz r M).Perm L := (bySz_perm r M).trans p
  refine List.Perm.eq_of_pairwise (le := fun l m => cnt r L l ≤ cnt r L m) (fun a b ha hb h3 h4 => ?_) (h2.imp fun {a b} h => by rwa [cnt_perm p, cnt_perm p] at h) (h1.imp fun {a b} h => by omega) p2
  refine Classical.byContradiction fun n => ?_
  have := pw_mem (R := fun l m => cnt r L l ≠ cnt r L m) (fun x y h e => h e.symm) (h1.imp fun {a b} h => by omega) (p2.subset ha) hb n
  omega

/-! ### as the program finds it -/
def allS {α : Type} : List (Option α) → Option (List α)
  | [] => some []
  | none :: _ => none
  | some a :: r => (allS r).map (a :: ·)
def nodeOf (r : Rl) : Nat → List Int → Option Nd
  | 0, _ => none
  | n + 1, W => if W.length = 1 then some (.work (W.headD 0)) else
      if (lots (paired r) W.length W).length = 1 then
        if (bySz r (lots (free r) W.length W)).length = 1 then none
        else (allS ((bySz r (lots (free r) W.length W)).map (nodeOf r n))).map (Nd.comp true)
      else (allS ((lots (paired r) W.length W).map (nodeOf r n))).map (Nd.comp false)
theorem allS_map {α β : Type} {f : α → Option β} {g : β → α} : ∀ {M : List β}, (∀ p ∈ M, f (g p) = some p) → allS ((M.map g).map f) = some M
  | [], _ => rfl
  | b :: M, h => by
    rw [List.map_cons, List.map_cons, h b (.head _), allS, allS_map fun p hp => h p (.tail _ hp)]; rfl
theorem choose_list {α β : Type} {g : β → α} {Q : β → Prop} : ∀ {L : List α}, (∀ l ∈ L, ∃ p, Q p ∧ g p = l) → ∃ ps : List β, ps.map g = L ∧ ∀ p ∈ ps, Q p
  | [], _ => ⟨[], rfl, fun _ h => nomatch h⟩
  | l :: L, h => by
    obtain ⟨p, hp, e⟩ := h l (.head _)
    obtain ⟨ps, e2, h2⟩ := choose_list fun l hl => h l (.tail _ hl)
    refine ⟨p :: ps, by rw [List.map_cons, e, e2], fun q hq => ?_⟩
    rcases List.mem_cons.mp hq with rfl | hq
    · exact hp
    · exact h2 q hq
theorem allS_none {α β : Type} {f : α → Option β} : ∀ {L : List α} {a : α}, a ∈ L → f a = none → allS (L.map f) = none
  | b :: L, a, ha, h => by
    rw [List.map_cons]
    cases e : f b with
    | none => rfl
    | some c =>
      rcases List.mem_cons.mp ha with rfl | ha
      · rw [h] at e; cases e
      · rw [allS, allS_none ha h]; rfl

/-! ### a making's works hang together -/
theorem hangs_parts {t : Rl} (T : Tie t) {ps : List Nd} (n : 2 ≤ ps.length) (ne : ∀ p ∈ ps, p.works ≠ []) (h : ps.Pairwise fun p q => ∀ x ∈ p.works, ∀ y ∈ q.works, t x y = true) : Hangs t (worksL ps) := by
  have hs : ps.Pairwise fun p q => ∀ x ∈ p.works, ∀ y ∈ q.works, t x y = true := h
  intro S ⟨x, mx, sx⟩ ⟨y, my, sy⟩
  obtain ⟨p, hp, xp⟩ := mem_worksL.mp mx
  obtain ⟨q, hq, yq⟩ := mem_worksL.mp my
  have go : ∀ {p q : Nd}, p ∈ ps → q ∈ ps → p ≠ q → ∀ x ∈ p.works, ∀ y ∈ q.works, t x y = true := fun hp hq ne => pw_mem (R := fun p q => ∀ x ∈ p.works, ∀ y ∈ q.works, t x y = true) (fun p q h y hy x hx => T.sym _ _ (h x hx y hy)) hs hp hq ne
  by_cases e : p = q
  · subst e
    -- another part
    have : ∃ q ∈ ps, q ≠ p := by
      refine Classical.byContradiction fun c => ?_
      match ps, n, hs with
      | a :: b :: R, _, hs =>
        have ea : a = p := Classical.byContradiction fun z => c ⟨a, .head _, z⟩
        have eb : b = p := Classical.byContradiction fun z => c ⟨b, .tail _ (.head _), z⟩
        subst ea; subst eb
        have := (List.pairwise_cons.mp hs).1 b (.head _) x xp x xp
        exact T.ne this rfl
    obtain ⟨q, hq, nq⟩ := this
    obtain ⟨z, hz⟩ := List.exists_mem_of_ne_nil _ (ne q hq)
    have mz := mem_worksL.mpr ⟨q, hq, hz⟩
    cases sz : S z
    · exact ⟨x, mx, z, mz, sx, sz, go hp hq (Ne.symm nq) x xp z hz⟩
    · exact ⟨z, mz, y, my, sz, sy, T.sym _ _ (go hp hq (Ne.symm nq) y yq z hz)⟩
  · exact ⟨x, mx, y, my, sx, sy, go hp hq e x xp y yq⟩
theorem tells_paired {r : Rl} {ps : List Nd} {b : Bool} (w : ps.Pairwise fun p q => ∀ x ∈ p.works, ∀ y ∈ q.works, r x y = b ∧ r y x = false) : ps.Pairwise fun p q => ∀ x ∈ p.works, ∀ y ∈ q.works, paired r x y = b :=
  w.imp fun {p q} h x hx y hy => by
    have := h x hx y hy
    unfold paired free
    rw [this.1, this.2]; cases b <;> rfl

/-! ### uniqueness: the program finds the making that is there -/
theorem nodup_parts {ps : List Nd} (h : (worksL ps).Nodup) : ps.Pairwise (fun p q => ∀ x ∈ p.works, ∀ y ∈ q.works, x ≠ y) ∧ ∀ p ∈ ps, p.works.Nodup := by
  induction ps with
  | nil => exact ⟨.nil, fun _ h => nomatch h⟩
  | cons p ps ih =>
    rw [worksL, List.nodup_append] at h
    obtain ⟨h1, h2, h3⟩ := h
    obtain ⟨i1, i2⟩ := ih h2
    refine ⟨List.pairwise_cons.mpr ⟨fun q hq x hx y hy => h3 x hx y (mem_worksL.mpr ⟨q, hq, hy⟩), i1⟩, fun q hq => ?_⟩
    rcases List.mem_cons.mp hq with rfl | hq
    · exact h1
    · exact i2 q hq
theorem flat_srt (ps : List Nd) : (ps.map fun p => srt p.works).flatten.Perm (worksL ps) := by
  induction ps with
  | nil => exact .refl _
  | cons p ps ih => rw [List.map_cons, List.flatten_cons, worksL]; exact (srt_perm _).append ih
theorem lots_parts {t : Rl} {ps : List Nd} {W : List Int} (nd : (worksL ps).Nodup) (hW : W.Perm (worksL ps)) (ne : ∀ p ∈ ps, p.works ≠ []) (ap : ps.Pairwise fun p q => ∀ x ∈ p.works, ∀ y ∈ q.works, t x y = false) (hg : ∀ p ∈ ps, Hangs t p.works) : Lots t W (ps.map fun p => srt p.works) where
  perm := (flat_srt ps).trans hW.symm
  srtd l hl := by
    obtain ⟨p, hp, rfl⟩ := List.mem_map.mp hl
    exact srt_lt ((nodup_parts nd).2 p hp)
  ne l hl := by
    obtain ⟨p, hp, rfl⟩ := List.mem_map.mp hl
    intro e
    have := srt_len p.works
    rw [e] at this
    exact ne p hp (List.length_eq_zero_iff.mp this.symm)
  apart := List.pairwise_map.mpr (ap.imp fun {p q} h x hx y hy => h x (mem_srt.mp hx) y (mem_srt.mp hy))
  hang l hl := by
    obtain ⟨p, hp, rfl⟩ := List.mem_map.mp hl
    exact (hg p hp).perm fun _ => mem_srt.symm
theorem worksL_len {ps : List Nd} (ne : ∀ p ∈ ps, p.works ≠ []) : ps.length ≤ (worksL ps).length ∧ ∀ p ∈ ps, p.works.length + ps.length ≤ (worksL ps).length + 1 := by
  induction ps with
  | nil => exact ⟨Nat.le_refl _, fun _ h => nomatch h⟩
  | cons p ps ih =>
    obtain ⟨i1, i2⟩ := ih fun q hq => ne q (.tail _ hq)
    have hp := List.length_pos_iff.mpr (ne p (.head _))
    simp only [worksL, List.length_append, List.length_cons]
    refine ⟨by omega, fun q hq => ?_⟩
    rcases List.mem_cons.mp hq with rfl | hq
    · omega
    · have := i2 q hq; omega
theorem hangs_of {r : Rl} (irr : ∀ x, r x x = false) {p : Nd} (c : Canon p) (T : Tells r p) (nd : p.works.Nodup) : (p.isC false = false → Hangs (paired r) p.works) ∧ (p.isC true = false → Hangs (co (paired r)) p.works) := by
  have TP := tie_paired irr
  match p, c, T, nd with
  | .work k, _, _, _ => exact ⟨fun _ => hangs_one _ _, fun _ => hangs_one _ _⟩
  | .comp b ps, .comp _ _ n hp _ _, .comp _ _ _ w, nd =>
    refine ⟨fun h => ?_, fun h => ?_⟩
    · have : b = true := by cases b <;> simp_all [Nd.isC]
      subst this
      exact hangs_parts TP n (fun p hp' => (hp p hp').ne) (tells_paired w)
    · have : b = false := by cases b <;> simp_all [Nd.isC]
      subst this
      refine hangs_parts TP.co n (fun p hp' => (hp p hp').ne) ?_
      exact (List.pairwise_and_iff.mpr ⟨tells_paired w, (nodup_parts nd).1⟩).imp fun {p q} ⟨h1, h2⟩ x hx y hy => co_true.mpr ⟨h2 x hx y hy, h1 x hx y hy⟩
theorem cut_of {r : Rl} {p : Nd} (c : Canon p) (T : Tells r p) (nd : p.works.Nodup) : (p.isC false = true → Cut (paired r) p.works) ∧ (p.isC true = true → Cut (co (paired r)) p.works) := by
  match p, c, T, nd with
  | .work k, _, _, _ => exact ⟨(fun h => nomatch h), (fun h => nomatch h)⟩
  | .comp b (a :: q :: ps), .comp _ _ n hp _ _, .comp _ _ _ w, nd =>
    obtain ⟨x, hx⟩ := List.exists_mem_of_ne_nil _ (hp a (.head _)).ne
    obtain ⟨y, hy⟩ := List.exists_mem_of_ne_nil _ (hp q (.tail _ (.head _))).ne
    have w1 := (List.pairwise_cons.mp (tells_paired w)).1
    have n1 := (List.pairwise_cons.mp (nodup_parts nd).1).1
    have mx : x ∈ worksL (a :: q :: ps) := mem_worksL.mpr ⟨a, .head _, hx⟩
    have my : y ∈ worksL (a :: q :: ps) := mem_worksL.mpr ⟨q, .tail _ (.head _), hy⟩
    have ny : y ∉ a.works := fun h => n1 q (.head _) y h y hy rfl
    have other : ∀ z, z ∈ worksL (a :: q :: ps) → z ∉ a.works → ∃ p ∈ q :: ps, z ∈ p.works := fun z mz nz => by
      obtain ⟨p, hp, zp⟩ := mem_worksL.mp mz
      rcases List.mem_cons.mp hp with rfl | hp
      · exact absurd zp nz
      · exact ⟨p, hp, zp⟩
    refine ⟨fun h => ?_, fun h => ?_⟩
    · have : b = false := by simpa [Nd.isC] using h
      subst this
      refine ⟨fun z => a.works.contains z, ⟨x, mx, by simp [hx]⟩, ⟨y, my, by simp [ny]⟩, fun u mu v mv su sv => ?_⟩
      obtain ⟨p, hp, vp⟩ := other v mv (by simpa using sv)
      exact w1 p hp u (by simpa using su) v vp
    · have : b = true := by simpa [Nd.isC] using h
      subst this
      refine ⟨fun z => a.works.contains z, ⟨x, mx, by simp [hx]⟩, ⟨y, my, by simp [ny]⟩, fun u mu v mv su sv => ?_⟩
      obtain ⟨p, hp, vp⟩ := other v mv (by simpa using sv)
      exact co_false.mpr (.inr (w1 p hp u (by simpa using su) v vp))
theorem lots_one {t : Rl} (T : Tie t) {n : Nat} {W : List Int} (hn : W.length ≤ n) (hW : W.Pairwise fun a b => a < b) (ne : W ≠ []) (h : Hangs t W) : lots t n W = [W] := by
  obtain ⟨l1, l2⟩ := lots_spec T n W hn hW
  refine l1.unique T ⟨?_, ?_, ?_, ?_, ?_⟩ l2 ?_
  · simp
  · intro l hl; simp only [List.mem_singleton] at hl; subst hl; exact hW
  · intro l hl; simp only [List.mem_singleton] at hl; subst hl; exact ne
  · simp
  · intro l hl; simp only [List.mem_singleton] at hl; subst hl; exact h
  · simp [Heads]
/-- the program finds a making that is there -/
theorem nodeOf_of {r : Rl} (irr : ∀ x, r x x = false) {p : Nd} (c : Canon p) : ∀ (n : Nat), Tells r p → p.works.Nodup → p.works.length ≤ n → nodeOf r n (srt p.works) = some p := by
  have TP := tie_paired irr
  induction c with
  | work k =>
    intro n _ _ hn
    match n, hn with
    | n + 1, _ => simp [nodeOf, Nd.works, srt_id]
  | comp b ps n hp w rr ih =>
    intro m T nd hm
    have ne := fun p h => (hp p h).ne
    have hl := worksL_len ne
    have hW : (srt (worksL ps)).Pairwise fun a b => a < b := srt_lt nd
    have hlen : (srt (worksL ps)).length = (worksL ps).length := srt_len _
    match m, hm, T with
    | 0, hm, _ => simp only [Nd.works] at hm; omega
    | m + 1, hm, .comp _ _ hT wT =>
      simp only [Nd.works] at hm nd ⊢
      have IH : ∀ p ∈ ps, nodeOf r m (srt p.works) = some p := fun p h => ih p h m (hT p h) ((nodup_parts nd).2 p h) (by have := hl.2 p h; omega)
      have ne1 : (srt (worksL ps)).length ≠ 1 := by rw [hlen]; omega
      have neW : srt (worksL ps) ≠ [] := fun e => by rw [e] at hlen; simp only [List.length_nil] at hlen; omega
      have hpar : ∀ p ∈ ps, (p.isC false = false → Hangs (paired r) p.works) ∧ (p.isC true = false → Hangs (co (paired r)) p.works) := fun p h => hangs_of irr (hp p h) (hT p h) ((nodup_parts nd).2 p h)
      unfold nodeOf
      rw [if_neg ne1]
      cases b with
      | false =>
        have L1 : Lots (paired r) (srt (worksL ps)) (ps.map fun p => srt p.works) := lots_parts nd (srt_perm _) ne (tells_paired wT) fun p h => (hpar p h).1 (w p h)
        have L2 : Heads (ps.map fun p => srt p.works) := List.pairwise_map.mpr (rr rfl)
        obtain ⟨k1, k2⟩ := lots_spec TP (srt (worksL ps)).length (srt (worksL ps)) (Nat.le_refl _) hW
        have e := k1.unique TP L1 k2 L2
        rw [e, if_neg (by rw [List.length_map]; omega), allS_map IH]
        rfl
      | true =>
        have hc : Hangs (paired r) (srt (worksL ps)) := (hangs_parts TP n ne (tells_paired wT)).perm fun _ => mem_srt.symm
        rw [lots_one TP (Nat.le_refl _) hW neW hc, if_pos (show [srt (worksL ps)].length = 1 from rfl)]
        have L1 : Lots (co (paired r)) (srt (worksL ps)) (ps.map fun p => srt p.works) := lots_parts nd (srt_perm _) ne (by
          exact (tells_paired wT).imp fun {p q} h x hx y hy => co_false.mpr (.inr (h x hx y hy))) fun p h => (hpar p h).2 (w p h)
        obtain ⟨k1, k2⟩ := lots_spec TP.co (srt (worksL ps)).length (srt (worksL ps)) (Nat.le_refl _) hW
        have pm : (lots (free r) (srt (worksL ps)).length (srt (worksL ps))).Perm (ps.map fun p => srt p.works) := by
          rw [lots_congr free_co]
          exact k1.perm_of TP.co (srt_nodup nd) L1
        have bf : (ps.map fun p => srt p.works).Pairwise (Before r) := List.pairwise_map.mpr (wT.imp fun {p q} h x hx y hy => h x (mem_srt.mp hx) y (mem_srt.mp hy))
        rw [bySz_of irr L1.ne bf pm, if_neg (by rw [List.length_map]; omega), allS_map IH]
        rfl
end Mo.Or
end
section
set_option autoImplicit false
/-! KO4: an order has a making just if no four works are an N. -/
namespace Mo.Or
/-- r is an order -/
structure Po (r : Rl) : Prop where
  irr : ∀ x, r x x = false
  tr : ∀ x y z, r x y = true → r y z = true → r x z = true
theorem Po.asym {r : Rl} (h : Po r) {x y : Int} (e : r x y = true) : r y x = false := by
  cases k : r y x
  · rfl
  · have := h.tr _ _ _ e k
    rw [h.irr] at this; cases this
theorem Po.ne {r : Rl} (h : Po r) {x y : Int} (e : r x y = true) : x ≠ y := fun z => by
  subst z; rw [h.irr] at e; cases e
structure IsN (r : Rl) (a b c d : Int) : Prop where
  ac : r a c = true
  bc : r b c = true
  bd : r b d = true
  ab : free r a b = true
  ad : free r a d = true
  cd : free r c d = true
  nab : a ≠ b
  nad : a ≠ d
  ncd : c ≠ d
theorem free_true {r : Rl} {x y : Int} : free r x y = true ↔ r x y = false ∧ r y x = false := by
  unfold free
  cases r x y <;> cases r y x <;> simp
theorem p4_n {r : Rl} (h : Po r) {a b c d : Int} (k : P4 (paired r) a b c d) : IsN r a c b d ∨ IsN r d b c a := by
  obtain ⟨h1, h2, h3, h4, h5, h6, n1, n2, n3⟩ := k
  rw [paired_true] at h1 h2 h3
  rw [paired_false] at h4 h5 h6
  rcases h1 with h1 | h1
  · have h2' : r c b = true := h2.resolve_left fun e => by have := h.tr _ _ _ h1 e; rw [h4.1] at this; cases this
    have h3' : r c d = true := h3.resolve_right fun e => by have := h.tr _ _ _ e h2'; rw [h6.2] at this; cases this
    exact .inl ⟨h1, h2', h3', free_true.mpr h4, free_true.mpr h5, free_true.mpr h6, n1, n2, n3⟩
  · have h2' : r b c = true := h2.resolve_right fun e => by have := h.tr _ _ _ e h1; rw [h4.2] at this; cases this
    have h3' : r d c = true := h3.resolve_left fun e => by have := h.tr _ _ _ h2' e; rw [h6.1] at this; cases this
    exact .inr ⟨h3', h2', h1, free_true.mpr h6.symm, free_true.mpr h5.symm, free_true.mpr h4.symm, Ne.symm n3, Ne.symm n2, Ne.symm n1⟩
def NoN (r : Rl) (W : List Int) : Prop := ∀ a ∈ W, ∀ b ∈ W, ∀ c ∈ W, ∀ d ∈ W, ¬ IsN r a b c d

/-- lots of free works lie one behind another, as a whole -/
theorem before_or {r : Rl} (h : Po r) {l m : List Int} (hl : Hangs (co (paired r)) l) (hm : Hangs (co (paired r)) m) (ap : ∀ x ∈ l, ∀ y ∈ m, co (paired r) x y = false ∧ x ≠ y) {x0 y0 : Int} (hx0 : x0 ∈ l) (hy0 : y0 ∈ m) (e : r x0 y0 = true) : Before r l m := by
  have tie : ∀ x ∈ l, ∀ y ∈ m, r x y = true ∨ r y x = true := fun x hx y hy => by
    have := (ap x hx y hy)
    rw [co_false] at this
    exact paired_true.mp (this.1.resolve_left this.2)
  -- for y0 all of l
  have s1 : ∀ y ∈ m, ∀ x0 ∈ l, r x0 y = true → ∀ x ∈ l, r x y = true := by
    intro y hy x0 hx0 e x hx
    refine Classical.byContradiction fun n => ?_
    obtain ⟨a, ha, b, hb, sa, sb, k⟩ := hl (fun z => r z y) ⟨x0, hx0, e⟩ ⟨x, hx, by simpa using n⟩
    have hb2 : r y b = true := (tie b hb y hy).resolve_left (by simp [sb])
    have := h.tr _ _ _ sa hb2
    rw [co_true, paired_false] at k
    rw [k.2.1] at this; cases this
  have s2 : ∀ x ∈ l, ∀ y0 ∈ m, r x y0 = true → ∀ y ∈ m, r x y = true := by
    intro x hx y0 hy0 e y hy
    refine Classical.byContradiction fun n => ?_
    obtain ⟨a, ha, b, hb, sa, sb, k⟩ := hm (fun z => r x z) ⟨y0, hy0, e⟩ ⟨y, hy, by simpa using n⟩
    have hb2 : r b x = true := (tie x hx b hb).resolve_left (by simp [sb])
    have := h.tr _ _ _ hb2 sa
    rw [co_true, paired_false] at k
    rw [k.2.2] at this; cases this
  intro x hx y hy
  have := s2 x hx y0 hy0 (s1 y0 hy0 x0 hx0 e x hx) y hy
  exact ⟨this, h.asym this⟩
theorem len_filter_lt {α : Type} {p q : α → Bool} : ∀ {L : List α} {a : α}, a ∈ L → q a = true → p a = false → (∀ x ∈ L, p x = true → q x = true) → (L.filter p).length < (L.filter q).length
  | b :: L, a, ha, qa, pa, h => by
    have le : (L.filter p).length ≤ (L.filter q).length := by
      clear ha
      have h' : ∀ x ∈ L, p x = true → q x = true := fun x hx => h x (.tail _ hx)
      clear h
      induction L with
      | nil => exact Nat.le_refl _
      | cons c L ih =>
        have := ih fun x hx => h' x (.tail _ hx)
        rw [List.filter_cons, List.filter_cons]
        have hc := h' c (.head _)
        cases k : p c
        · cases q c <;> simp <;> omega
        · rw [hc k]; simpa using this
    rw [List.filter_cons, List.filter_cons]
    rcases List.mem_cons.mp ha with rfl | ha
    · rw [qa, pa]; simp; omega
    · have := len_filter_lt ha qa pa fun x hx => h x (.tail _ hx)
      have hb := h b (.head _)
      cases k : p b
      · cases q b <;> simp <;> omega
      · rw [hb k]; simpa using this
theorem bySz_before {r : Rl} (h : Po r) {W : List Int} {L : List (List Int)} (hW : W.Nodup) (k : Lots (co (paired r)) W L) : (bySz r L).Pairwise (Before r) := by
  have T := tie_paired h.irr
  have ndL := k.nodup hW
  have nd2 : (bySz r L).Nodup := (bySz_perm r L).nodup_iff.mpr ndL
  have flat := k.perm.nodup_iff.mpr hW
  have uni : ∀ {l m : List Int}, l ∈ L → m ∈ L → l ≠ m → ∀ x ∈ l, ∀ y ∈ m, x ≠ y := by
    intro l m hl hm ne
    have pw : L.Pairwise fun l m => ∀ x ∈ l, ∀ y ∈ m, x ≠ y := (List.pairwise_flatten.mp flat).2
    exact pw_mem (R := fun l m => ∀ x ∈ l, ∀ y ∈ m, x ≠ y) (fun x y h a ha b hb e => h b hb a ha e.symm) pw hl hm ne
  have ap : ∀ {l m : List Int}, l ∈ L → m ∈ L → l ≠ m → ∀ x ∈ l, ∀ y ∈ m, co (paired r) x y = false ∧ x ≠ y := fun hl hm ne x hx y hy =>
    ⟨pw_mem (R := fun l m => ∀ x ∈ l, ∀ y ∈ m, co (paired r) x y = false) (fun x y h a ha b hb => T.co.symf (h b hb a ha)) k.apart hl hm ne x hx y hy, uni hl hm ne x hx y hy⟩
  have heads : ∀ {l : List Int}, l ∈ L → l.headD 0 ∈ l := fun hl => headD_mem (k.ne _ hl)
  have lt : ∀ {l m : List Int}, l ∈ L → m ∈ L → l ≠ m → r (l.headD 0) (m.headD 0) = true → cnt r L l < cnt r L m := fun {l m} hl hm ne e => by
    refine len_filter_lt hl e (h.irr _) fun o ho k1 => h.tr _ _ _ k1 e
  refine ((List.pairwise_and_iff.mpr ⟨bySz_pw r L, nd2⟩).imp_of_mem ?_)
  intro l m hl hm ⟨h1, h2⟩
  have hl := (bySz_perm r L).subset hl
  have hm := (bySz_perm r L).subset hm
  have t := ap hl hm h2 _ (heads hl) _ (heads hm)
  rw [co_false] at t
  rcases paired_true.mp (t.1.resolve_left t.2) with e | e
  · exact before_or h (k.hang l hl) (k.hang m hm) (ap hl hm h2) (heads hl) (heads hm) e
  · have := lt hm hl (Ne.symm h2) e
    omega

theorem srt_eq {W xs : List Int} (hW : W.Pairwise fun a b => a < b) (p : xs.Perm W) : srt xs = W := by
  refine lt_ext (srt_lt (p.nodup_iff.mpr (hW.imp fun {a b} h => by omega))) hW fun x => ?_
  rw [mem_srt, p.mem_iff]
/-- works without an N: the program finds a making, in the written form, that tells them -/
theorem node_ex {r : Rl} (h : Po r) : ∀ (n : Nat) (W : List Int), W.length ≤ n → W ≠ [] → W.Pairwise (fun a b => a < b) → NoN r W → ∃ p : Nd, nodeOf r n W = some p ∧ Canon p ∧ Tells r p ∧ srt p.works = W ∧ p.works.Nodup
  | 0, W, hn, ne, _, _ => absurd (List.length_eq_zero_iff.mp (by omega)) ne
  | n + 1, W, hn, ne, hW, hN => by
    have T := tie_paired h.irr
    have ndW : W.Nodup := hW.imp fun {a b} h => by omega
    unfold nodeOf
    by_cases h1 : W.length = 1
    · rw [if_pos h1]
      match W, h1 with
      | [k], _ => exact ⟨.work k, rfl, .work k, .work k, by simp [Nd.works, srt_id], by simp [Nd.works]⟩
    rw [if_neg h1]
    have len2 : 2 ≤ W.length := by
      have := List.length_pos_iff.mpr ne
      omega
    -- parts of each list of lots
    have parts : ∀ (t : Rl) (L : List (List Int)), Lots t W L → 2 ≤ L.length → ∃ ps : List Nd, (ps.map fun p => srt p.works) = L ∧ ∀ p ∈ ps, (nodeOf r n (srt p.works) = some p ∧ Canon p ∧ Tells r p ∧ p.works.Nodup) := by
      intro t L k hL
      refine choose_list (g := fun p : Nd => srt p.works) fun l hl => ?_
      have sub : ∀ x ∈ l, x ∈ W := fun x hx => k.mem.mpr ⟨l, hl, hx⟩
      have short : l.length < W.length := by
        rw [← k.perm.length_eq]
        obtain ⟨s, t', e⟩ := List.append_of_mem hl
        subst e
        simp only [List.flatten_append, List.flatten_cons, List.length_append]
        have : 1 ≤ s.flatten.length + t'.flatten.length := by
          cases s with
          | cons a s =>
            have := List.length_pos_iff.mpr (k.ne a (.head _))
            simp only [List.flatten_cons, List.length_append]; omega
          | nil => cases t' with
            | nil => simp at hL
            | cons a t' =>
              have := List.length_pos_iff.mpr (k.ne a (.tail _ (.head _)))
              simp only [List.flatten_cons, List.length_append]; omega
        omega
      obtain ⟨p, e, c, tl, s, nd⟩ := node_ex h n l (by omega) (k.ne l hl) (k.srtd l hl) fun a ha b hb c hc d hd => hN a (sub a ha) b (sub b hb) c (sub c hc) d (sub d hd)
      exact ⟨p, ⟨by rw [s]; exact e, c, tl, nd⟩, s⟩
    have flat : ∀ {t : Rl} {L : List (List Int)} {ps : List Nd}, Lots t W L → (ps.map fun p => srt p.works) = L → (worksL ps).Perm W := fun k e => ((flat_srt _).symm).trans (e ▸ k.perm)
    by_cases h2 : (lots (paired r) W.length W).length = 1
    · rw [if_pos h2]
      obtain ⟨k1, _⟩ := lots_spec T W.length W (Nat.le_refl _) hW
      have hang : Hangs (paired r) W := by
        match hh : lots (paired r) W.length W, h2 with
        | [l], _ => rw [hh] at k1; exact k1.one
      obtain ⟨c1, _⟩ := lots_spec T.co W.length W (Nat.le_refl _) hW
      rw [lots_congr free_co]
      generalize hM : lots (co (paired r)) W.length W = M at c1
      have cutc : Cut (co (paired r)) W := by
        rcases cut_ex T W ndW len2 (fun a b c d ha hb hc hd k => by
          rcases p4_n h k with k | k
          · exact hN a ha c hc b hb d hd k
          · exact hN d hd b hb c hc a ha k) with c | c
        · exact absurd hang c.not_hangs
        · exact c
      have M2 : 2 ≤ M.length := by
        match M, c1 with
        | [], c1 =>
          have := c1.perm.length_eq
          simp at this; omega
        | [l], c1 => exact absurd c1.one cutc.not_hangs
        | _ :: _ :: _, _ => simp
      have bf := bySz_before h ndW c1
      have pm := bySz_perm r M
      have lenB : (bySz r M).length = M.length := pm.length_eq
      have T2 := T.co
      have kB : Lots (co (paired r)) W (bySz r M) := ⟨pm.flatten.trans c1.perm, fun l hl => c1.srtd l (pm.subset hl), fun l hl => c1.ne l (pm.subset hl), pm.symm.pairwise c1.apart (fun {x y} hh a ha b hb => T2.symf (hh b hb a ha)), fun l hl => c1.hang l (pm.subset hl)⟩
      rw [if_neg (by omega)]
      obtain ⟨ps, e, hp⟩ := parts _ _ kB (by omega)
      have wl := flat kB e
      rw [← e, allS_map fun p hp' => (hp p hp').1]
      have lenp : ps.length = (bySz r M).length := by rw [← e, List.length_map]
      refine ⟨.comp true ps, rfl, .comp true ps (by omega) (fun p hp' => (hp p hp').2.1) (fun p hp' => ?_) (fun z => nomatch z), .comp true ps (fun p hp' => (hp p hp').2.2.1) ?_, srt_eq hW wl, (wl.nodup_iff.mpr ndW : (worksL ps).Nodup)⟩
      · cases z : p.isC true
        · rfl
        · have c := (cut_of (hp p hp').2.1 (hp p hp').2.2.1 (hp p hp').2.2.2).2 z
          have hg := kB.hang (srt p.works) (e ▸ List.mem_map.mpr ⟨p, hp', rfl⟩)
          exact absurd (hg.perm fun _ => mem_srt) c.not_hangs
      · rw [← e] at bf
        exact (List.pairwise_map.mp bf).imp fun {p q} hh x hx y hy => hh x (mem_srt.mpr hx) y (mem_srt.mpr hy)
    · rw [if_neg h2]
      obtain ⟨k1, k2⟩ := lots_spec T W.length W (Nat.le_refl _) hW
      generalize lots (paired r) W.length W = L at k1 k2 h2
      have L2 : 2 ≤ L.length := by
        match L, k1, h2 with
        | [], k1, _ =>
          have := k1.perm.length_eq
          simp at this; omega
        | _ :: _ :: _, _, _ => simp
      obtain ⟨ps, e, hp⟩ := parts _ _ k1 L2
      have wl := flat k1 e
      rw [← e, allS_map fun p hp' => (hp p hp').1]
      have lenp : ps.length = L.length := by rw [← e, List.length_map]
      refine ⟨.comp false ps, rfl, .comp false ps (by omega) (fun p hp' => (hp p hp').2.1) (fun p hp' => ?_) (fun _ => ?_), .comp false ps (fun p hp' => (hp p hp').2.2.1) ?_, srt_eq hW wl, (wl.nodup_iff.mpr ndW : (worksL ps).Nodup)⟩
      · cases z : p.isC false
        · rfl
        · have c := (cut_of (hp p hp').2.1 (hp p hp').2.2.1 (hp p hp').2.2.2).1 z
          have hg := k1.hang (srt p.works) (e ▸ List.mem_map.mpr ⟨p, hp', rfl⟩)
          exact absurd (hg.perm fun _ => mem_srt) c.not_hangs
      · have := k2
        rw [← e] at this
        exact (List.pairwise_map (R := fun l m : List Int => l.headD 0 < m.headD 0)).mp this
      · have := k1.apart
        rw [← e] at this
        exact (List.pairwise_map.mp this).imp fun {p q} hh x hx y hy => paired_false.mp (hh x (mem_srt.mpr hx) y (mem_srt.mpr hy))

/-- an N bars each making -/
theorem node_none {r : Rl} (h : Po r) {a b c d : Int} (k : IsN r a b c d) : ∀ (n : Nat) (W : List Int), W.Pairwise (fun a b => a < b) → a ∈ W → b ∈ W → c ∈ W → d ∈ W → nodeOf r n W = none
  | 0, _, _, _, _, _, _ => rfl
  | n + 1, W, hW, ha, hb, hc, hd => by
    have T := tie_paired h.irr
    unfold nodeOf
    have h1 : W.length ≠ 1 := fun e => by
      match W, e with
      | [z], _ =>
        simp only [List.mem_singleton] at ha hb
        exact k.nab (ha.trans hb.symm)
    rw [if_neg h1]
    obtain ⟨k1, _⟩ := lots_spec T W.length W (Nat.le_refl _) hW
    obtain ⟨c1, _⟩ := lots_spec T.co W.length W (Nat.le_refl _) hW
    have go : ∀ (L : List (List Int)) (f : List Nd → Nd), (∃ l ∈ L, l.Pairwise (fun a b => a < b) ∧ a ∈ l ∧ b ∈ l ∧ c ∈ l ∧ d ∈ l) → (allS (L.map (nodeOf r n))).map f = none := by
      rintro L f ⟨l, hl, hs, la, lb, lc, ld⟩
      rw [allS_none hl (node_none h k n l hs la lb lc ld)]; rfl
    rw [lots_congr free_co]
    have ft : ∀ {x y : Int}, x ≠ y → free r x y = true → co (paired r) x y = true := fun ne e => by rw [← free_co _ _ ne]; exact e
    have pt : ∀ {x y : Int}, r x y = true → paired r x y = true := fun e => paired_true.mpr (.inl e)
    split
    · split
      · rfl
      · refine go _ _ ?_
        obtain ⟨l, hl, la⟩ := c1.mem.mp ha
        have lb := c1.tied T.co hl la hb (ft k.nab k.ab)
        have ld := c1.tied T.co hl la hd (ft k.nad k.ad)
        have lc := c1.tied T.co hl ld hc (T.co.sym _ _ (ft k.ncd k.cd))
        exact ⟨l, (bySz_perm r _).mem_iff.mpr hl, c1.srtd l hl, la, lb, lc, ld⟩
    · refine go _ _ ?_
      obtain ⟨l, hl, la⟩ := k1.mem.mp ha
      have lc := k1.tied T hl la hc (pt k.ac)
      have lb := k1.tied T hl lc hb (T.sym _ _ (pt k.bc))
      have ld := k1.tied T hl lb hd (pt k.bd)
      exact ⟨l, hl, k1.srtd l hl, la, lb, lc, ld⟩
end Mo.Or
end
section
set_option autoImplicit false
/-! KO5: the pairs that a making tells. -/
namespace Mo.Or
abbrev P2 := Int × Int
def cross (p : Nd) (r : List Nd) : List P2 := r.flatMap fun q => p.works.flatMap fun x => q.works.map fun y => (x, y)
mutual
def Nd.pairs : Nd → List P2
  | .work _ => []
  | .comp b ps => pairsL b ps
def pairsL (b : Bool) : List Nd → List P2
  | [] => []
  | p :: r => (p.pairs ++ if b then cross p r else []) ++ pairsL b r
end
def seg (b : Bool) (p : Nd) (r : List Nd) : List P2 := p.pairs ++ if b then cross p r else []
/-- what the parts A tell, r behind them -/
def preP (b : Bool) : List Nd → List Nd → List P2
  | [], _ => []
  | a :: A, r => seg b a (A ++ r) ++ preP b A r
theorem preP_snoc (b : Bool) : ∀ (A : List Nd) (p : Nd) (r : List Nd), preP b (A ++ [p]) r = preP b A (p :: r) ++ seg b p r
  | [], p, r => by simp [preP]
  | a :: A, p, r => by
    rw [List.cons_append, preP, preP, preP_snoc b A p r]
    simp
theorem preP_all (b : Bool) : ∀ ps : List Nd, preP b ps [] = pairsL b ps
  | [] => rfl
  | p :: ps => by
    rw [preP, pairsL, preP_all b ps, List.append_nil]; rfl
theorem mem_cross {p : Nd} {r : List Nd} {x y : Int} : (x, y) ∈ cross p r ↔ x ∈ p.works ∧ y ∈ worksL r := by
  unfold cross
  rw [List.mem_flatMap]
  constructor
  · rintro ⟨q, hq, h⟩
    obtain ⟨a, ha, h⟩ := List.mem_flatMap.mp h
    obtain ⟨c, hc, e⟩ := List.mem_map.mp h
    cases e
    exact ⟨ha, mem_worksL.mpr ⟨q, hq, hc⟩⟩
  · rintro ⟨hx, hy⟩
    obtain ⟨q, hq, hc⟩ := mem_worksL.mp hy
    exact ⟨q, hq, List.mem_flatMap.mpr ⟨x, hx, List.mem_map.mpr ⟨y, hc, rfl⟩⟩⟩
theorem mem_pairsL {b : Bool} {p : Nd} {r : List Nd} {x y : Int} : (x, y) ∈ pairsL b (p :: r) ↔ (x, y) ∈ p.pairs ∨ (b = true ∧ x ∈ p.works ∧ y ∈ worksL r) ∨ (x, y) ∈ pairsL b r := by
  rw [pairsL, List.mem_append, List.mem_append, or_assoc]
  cases b with
  | false => simp
  | true => simp [mem_cross]
mutual
theorem pairs_works : ∀ (p : Nd) {x y : Int}, (x, y) ∈ p.pairs → x ∈ p.works ∧ y ∈ p.works
  | .work _, x, y, h => by cases h
  | .comp b ps, x, y, h => pairsL_works b ps h
theorem pairsL_works (b : Bool) : ∀ (ps : List Nd) {x y : Int}, (x, y) ∈ pairsL b ps → x ∈ worksL ps ∧ y ∈ worksL ps
  | [], x, y, h => by cases h
  | p :: r, x, y, h => by
    rw [worksL, List.mem_append, List.mem_append]
    rcases mem_pairsL.mp h with h | h | h
    · have := pairs_works p h
      exact ⟨.inl this.1, .inl this.2⟩
    · exact ⟨.inl h.2.1, .inr h.2.2⟩
    · have := pairsL_works b r h
      exact ⟨.inr this.1, .inr this.2⟩
end
mutual
theorem pairs_irr : ∀ (p : Nd), p.works.Nodup → ∀ x, (x, x) ∉ p.pairs
  | .work _, _, x => by intro h; cases h
  | .comp b ps, nd, x => pairsL_irr b ps nd x
theorem pairsL_irr (b : Bool) : ∀ (ps : List Nd), (worksL ps).Nodup → ∀ x, (x, x) ∉ pairsL b ps
  | [], _, x => by intro h; cases h
  | p :: r, nd, x => by
    rw [worksL, List.nodup_append] at nd
    intro h
    rcases mem_pairsL.mp h with h | h | h
    · exact pairs_irr p nd.1 x h
    · exact nd.2.2 x h.2.1 x h.2.2 rfl
    · exact pairsL_irr b r nd.2.1 x h
end
mutual
theorem pairs_tr : ∀ (p : Nd), p.works.Nodup → ∀ x y z, (x, y) ∈ p.pairs → (y, z) ∈ p.pairs → (x, z) ∈ p.pairs
  | .work _, _, x, y, z => by intro h; cases h
  | .comp b ps, nd, x, y, z => pairsL_tr b ps nd x y z
theorem pairsL_tr (b : Bool) : ∀ (ps : List Nd), (worksL ps).Nodup → ∀ x y z, (x, y) ∈ pairsL b ps → (y, z) ∈ pairsL b ps → (x, z) ∈ pairsL b ps
  | [], _, x, y, z => by intro h; cases h
  | p :: r, nd, x, y, z => by
    rw [worksL, List.nodup_append] at nd
    obtain ⟨n1, n2, n3⟩ := nd
    intro h k
    rw [mem_pairsL] at h k ⊢
    have no : ∀ {u}, u ∈ p.works → u ∈ worksL r → False := fun h1 h2 => n3 _ h1 _ h2 rfl
    rcases h with h | h | h
    · have hw := pairs_works p h
      rcases k with k | k | k
      · exact .inl (pairs_tr p n1 x y z h k)
      · exact .inr (.inl ⟨k.1, hw.1, k.2.2⟩)
      · exact (no hw.2 (pairsL_works b r k).1).elim
    · rcases k with k | k | k
      · exact (no (pairs_works p k).1 h.2.2).elim
      · exact (no k.2.1 h.2.2).elim
      · exact .inr (.inl ⟨h.1, h.2.1, (pairsL_works b r k).2⟩)
    · have hw := pairsL_works b r h
      rcases k with k | k | k
      · exact (no (pairs_works p k).1 hw.2).elim
      · exact (no k.2.1 hw.2).elim
      · exact .inr (.inr (pairsL_tr b r n2 x y z h k))
end
mutual
theorem pairs_nodup : ∀ (p : Nd), p.works.Nodup → p.pairs.Nodup
  | .work _, _ => .nil
  | .comp b ps, nd => pairsL_nodup b ps nd
theorem pairsL_nodup (b : Bool) : ∀ (ps : List Nd), (worksL ps).Nodup → (pairsL b ps).Nodup
  | [], _ => .nil
  | p :: r, nd => by
    rw [worksL, List.nodup_append] at nd
    obtain ⟨n1, n2, n3⟩ := nd
    have no : ∀ {u}, u ∈ p.works → u ∈ worksL r → False := fun h1 h2 => n3 _ h1 _ h2 rfl
    rw [pairsL]
    refine List.nodup_append.mpr ⟨List.nodup_append.mpr ⟨pairs_nodup p n1, ?_, ?_⟩, pairsL_nodup b r n2, ?_⟩
    · split
      · unfold cross
        have hp := nodup_parts n2
        refine List.pairwise_flatMap.mpr ⟨fun q hq => ?_, hp.1.imp fun {q q'} h u hu v hv e => ?_⟩
        · refine List.pairwise_flatMap.mpr ⟨fun x hx => ?_, n1.imp fun {a c} h u hu v hv e => ?_⟩
          · exact List.pairwise_map.mpr ((hp.2 q hq).imp fun {a c} h e => h (by cases e; rfl))
          · obtain ⟨_, _, rfl⟩ := List.mem_map.mp hu
            obtain ⟨_, _, rfl⟩ := List.mem_map.mp hv
            exact h (congrArg Prod.fst e)
        · obtain ⟨_, _, hu⟩ := List.mem_flatMap.mp hu
          obtain ⟨_, _, hv⟩ := List.mem_flatMap.mp hv
          obtain ⟨y, hy, rfl⟩ := List.mem_map.mp hu
          obtain ⟨y', hy', rfl⟩ := List.mem_map.mp hv
          exact h y hy y' hy' (congrArg Prod.snd e)
      · exact .nil
    · rintro ⟨x, y⟩ hu ⟨x', y'⟩ hv e
      cases e
      split at hv
      · exact no (pairs_works p hu).2 (mem_cross.mp hv).2
      · cases hv
    · rintro ⟨x, y⟩ hu ⟨x', y'⟩ hv e
      cases e
      have hw := pairsL_works b r hv
      rcases List.mem_append.mp hu with hu | hu
      · exact no (pairs_works p hu).1 hw.1
      · split at hu
        · exact no (mem_cross.mp hu).1 hw.1
        · cases hu
end
/-- r is what the pairs tell -/
theorem tells_of {r : Rl} : ∀ (p : Nd), p.works.Nodup → (∀ x ∈ p.works, ∀ y ∈ p.works, r x y = true ↔ (x, y) ∈ p.pairs) → Tells r p
  | .work k, _, _ => .work k
  | .comp b ps, nd, h => by
    have hp : ∀ p ∈ ps, p.works.Nodup := (nodup_parts nd).2
    have key : ∀ (qs : List Nd), (∀ q ∈ qs, q ∈ ps) → (worksL qs).Nodup → (∀ x ∈ worksL qs, ∀ y ∈ worksL qs, r x y = true ↔ (x, y) ∈ pairsL b qs) → (∀ q ∈ qs, ∀ x ∈ q.works, ∀ y ∈ q.works, r x y = true ↔ (x, y) ∈ q.pairs) ∧ qs.Pairwise fun p q => ∀ x ∈ p.works, ∀ y ∈ q.works, r x y = b ∧ r y x = false := by
      intro qs
      induction qs with
      | nil => exact fun _ _ _ => ⟨(fun _ h => nomatch h), .nil⟩
      | cons q qs ih =>
        intro sub nd h
        rw [worksL, List.nodup_append] at nd
        obtain ⟨n1, n2, n3⟩ := nd
        have no : ∀ {u}, u ∈ q.works → u ∈ worksL qs → False := fun h1 h2 => n3 _ h1 _ h2 rfl
        have ml : ∀ {u}, u ∈ q.works → u ∈ worksL (q :: qs) := fun h => by rw [worksL]; exact List.mem_append.mpr (.inl h)
        have mr : ∀ {u}, u ∈ worksL qs → u ∈ worksL (q :: qs) := fun h => by rw [worksL]; exact List.mem_append.mpr (.inr h)
        obtain ⟨i1, i2⟩ := ih (fun q hq => sub q (.tail _ hq)) n2 fun x hx y hy => by
          rw [h x (mr hx) y (mr hy), mem_pairsL]
          constructor
          · rintro (h | h | h)
            · exact (no (pairs_works q h).1 hx).elim
            · exact (no h.2.1 hx).elim
            · exact h
          · exact fun h => .inr (.inr h)
        refine ⟨fun p hp => ?_, List.pairwise_cons.mpr ⟨fun p hp x hx y hy => ?_, i2⟩⟩
        · rcases List.mem_cons.mp hp with rfl | hp
          · intro x hx y hy
            rw [h x (ml hx) y (ml hy), mem_pairsL]
            constructor
            · rintro (h | h | h)
              · exact h
              · exact (no hy h.2.2).elim
              · exact (no hx (pairsL_works b qs h).1).elim
            · exact fun h => .inl h
          · exact i1 p hp
        · have my : y ∈ worksL qs := mem_worksL.mpr ⟨p, hp, hy⟩
          constructor
          · have := h x (ml hx) y (mr my)
            rw [mem_pairsL] at this
            cases b with
            | true => exact this.mpr (.inr (.inl ⟨rfl, hx, my⟩))
            | false =>
              cases k : r x y
              · rfl
              · rcases this.mp k with h | h | h
                · exact (no (pairs_works q h).2 my).elim
                · exact h.1.symm
                · exact (no hx (pairsL_works _ qs h).1).elim
          · have := h y (mr my) x (ml hx)
            rw [mem_pairsL] at this
            cases k : r y x
            · rfl
            · rcases this.mp k with h | h | h
              · exact (no (pairs_works q h).1 my).elim
              · exact (no h.2.1 my).elim
              · exact (no hx (pairsL_works _ qs h).2).elim
    obtain ⟨k1, k2⟩ := key ps (fun _ h => h) nd h
    exact .comp b ps (fun p hp' => tells_of p (hp p hp') (k1 p hp')) k2
/-- what is told is r -/
theorem tells_iff {r : Rl} (irr : ∀ x, r x x = false) {p : Nd} (t : Tells r p) : ∀ x ∈ p.works, ∀ y ∈ p.works, r x y = true ↔ (x, y) ∈ p.pairs := by
  induction t with
  | work k =>
    intro x hx y hy
    simp only [Nd.works, List.mem_singleton] at hx hy
    subst hx; subst hy
    rw [irr]
    simp [Nd.pairs]
  | comp b ps h w ih =>
    show ∀ x ∈ worksL ps, ∀ y ∈ worksL ps, r x y = true ↔ (x, y) ∈ pairsL b ps
    clear h
    induction ps with
    | nil => intro x hx; cases hx
    | cons q qs ih2 =>
      obtain ⟨w1, w2⟩ := List.pairwise_cons.mp w
      have i2 := ih2 w2 fun p hp => ih p (.tail _ hp)
      have w1' : ∀ x ∈ q.works, ∀ y ∈ worksL qs, r x y = b ∧ r y x = false := fun x hx y hy => by
        obtain ⟨p, hp, yp⟩ := mem_worksL.mp hy
        exact w1 p hp x hx y yp
      intro x hx y hy
      rw [worksL, List.mem_append] at hx hy
      rw [mem_pairsL]
      rcases hx with hx | hx
      · rcases hy with hy | hy
        · have := ih q (.head _) x hx y hy
          rw [this]
          constructor
          · exact .inl
          · rintro (h | h | h)
            · exact h
            · have k := (w1' y hy y h.2.2)
              have k2 := (w1' x hx y h.2.2).1
              have e := ih q (.head _) x hx y hy
              rw [h.1] at k
              have := k.1.symm.trans (irr y)
              cases this
            · have hw := pairsL_works b qs h
              have k := w1' x hx x hw.1
              have e := (i2 x hw.1 y hw.2).mpr h
              have e2 := (w1' y hy x hw.1).2
              rw [e] at e2; cases e2
        · have k := w1' x hx y hy
          rw [k.1]
          constructor
          · intro e; exact .inr (.inl ⟨e, hx, hy⟩)
          · rintro (h | h | h)
            · have hw := pairs_works q h
              have e := (ih q (.head _) x hx y hw.2).mpr h
              rw [k.1] at e; exact e
            · exact h.1
            · have hw := pairsL_works b qs h
              have e := (i2 x hw.1 y hy).mpr h
              rw [k.1] at e; exact e
      · rcases hy with hy | hy
        · have k := (w1' y hy x hx).2
          rw [k]
          constructor
          · intro e; cases e
          · rintro (h | h | h)
            · have hw := pairs_works q h
              have e := (ih q (.head _) x hw.1 y hy).mpr h
              rw [k] at e; exact e
            · have e := (w1' y hy y h.2.2).1
              rw [h.1, irr] at e; cases e
            · have hw := pairsL_works b qs h
              have e := (i2 x hx y hw.2).mpr h
              rw [k] at e; exact e
        · rw [i2 x hx y hy]
          constructor
          · exact fun h => .inr (.inr h)
          · rintro (h | h | h)
            · have hw := pairs_works q h
              have e := (ih q (.head _) x hw.1 y hw.2).mpr h
              rw [(w1' x hw.1 y hy).1] at e
              have e2 := (w1' y hw.2 y hy)
              rw [e] at e2
              have := e2.1.symm.trans (irr y)
              cases this
            · have e := (w1' x h.2.1 x hx)
              rw [h.1, irr] at e
              cases e.1
            · exact h
end Mo.Or
end
section
set_option autoImplicit false
set_option linter.all false
/-! V1: the printed functions of orders, evaluated. -/
namespace Mo.K70
open PySem Mo Mo.Or
abbrev P2 := Int × Int
def prD (p : P2) : PyData := .tuple [.int p.1, .int p.2]
theorem prD_T (p : P2) : prD p = tupI [p.1, p.2] := rfl
theorem wr_pr : Wr prD 1 := ⟨fun p => by rw [prD_T]; exact fine_tupI _, fun a b h => by
  have := wr_tupI.inj [a.1, a.2] [b.1, b.2] h
  simp at this
  exact Prod.ext this.1 this.2⟩
@[simp] theorem ix_pr0 (p : P2) : opIx (prD p) (.int 0) = some (.int p.1) := rfl
@[simp] theorem ix_pr1 (p : P2) : opIx (prD p) (.int 1) = some (.int p.2) := rfl
def ordD (n : Int) (ps : List P2) : PyData := .tuple [.str "order", .int n, .tuple (ps.map prD)]
def rl (ps : List P2) : Rl := fun x y => decide ((x, y) ∈ ps)
abbrev ltP (a b : P2) : Prop := a.1 < b.1 ∨ (a.1 = b.1 ∧ a.2 < b.2)
structure Ord (n : Int) (ps : List P2) : Prop where
  n1 : 1 ≤ n
  n16 : n ≤ 16
  inn : ∀ p ∈ ps, 0 ≤ p.1 ∧ p.1 < n ∧ 0 ≤ p.2 ∧ p.2 < n
  srt : ps.Pairwise ltP
  po : Po (rl ps)
theorem lexI_P (a b : P2) : lexI [a.1, a.2] [b.1, b.2] = decide (ltP a b) := by
  simp only [lexI]
  by_cases h : a.1 = b.1
  · by_cases k : a.2 = b.2
    · rw [if_pos h, if_pos k]
      exact (decide_eq_false (by unfold ltP; omega)).symm
    · rw [if_pos h, if_neg k]
      exact decide_eq_decide.mpr (by unfold ltP; omega)
  · rw [if_neg h]
    exact decide_eq_decide.mpr (by unfold ltP; omega)

theorem e_is_integer (k : Int) : s_is_integer [.dat (.int k)] = .ret (.bool true) [] := rfl
theorem e_is_count (k : Int) : s_is_count [.dat (.int k)] = .ret (.bool (decide (0 ≤ k))) [] := rfl
theorem e_is_below (k n : Int) : s_is_below [.dat (.int k), .dat (.int n)] = .ret (.bool (decide (0 ≤ k) && decide (k < n))) [] := by
  by_cases h : 0 ≤ k <;> simp [s_is_below, b_is_below, bodyOf_ap, e_is_count, h]
theorem e_is_row (xs : List PyData) (n : Int) : s_is_row [.dat (.tuple xs), .dat (.int n)] = .ret (.bool (decide ((xs.length : Int) = n))) [] := by
  simp [s_is_row, b_is_row, bodyOf_ap]
/-- near < far for each two neighbours -/
def risesB {α : Type} (lt : α → α → Bool) : List α → Bool
  | x :: y :: r => lt x y && risesB lt (y :: r)
  | _ => true
theorem zipT_map {α : Type} (D : α → PyData) : ∀ xs ys : List α, zipT (xs.map D) (ys.map D) = (xs.zip ys).map fun p => .tuple [D p.1, D p.2]
  | [], _ => rfl
  | _ :: _, [] => rfl
  | x :: xs, y :: ys => by rw [List.map_cons, List.map_cons, zipT, zipT_map D xs ys]; rfl
theorem cut_tail (xs : List PyData) : cut xs (some 1) none = xs.tail := by
  unfold cut sIx
  cases xs with
  | nil => rfl
  | cons x xs =>
    have : min (Int.toNat 1) (x :: xs).length = 1 := by simp
    simp
theorem all_zip_tail {α : Type} (lt : α → α → Bool) : ∀ xs : List α, ((xs.zip xs.tail).all fun p => lt p.1 p.2) = risesB lt xs
  | [] => rfl
  | [_] => rfl
  | x :: y :: r => by
    have := all_zip_tail lt (y :: r)
    simp only [List.tail_cons] at this ⊢
    rw [List.zip_cons_cons, List.all_cons, this, risesB]
theorem e_is_rising {α : Type} {D : α → PyData} {lt : α → α → Bool} (h : ∀ a b, opLt (D a) (D b) = some (.bool (lt a b))) (xs : List α) (hl : xs.length ≤ 16777216) : s_is_rising [.dat (.tuple (xs.map D))] = .ret (.bool (risesB lt xs)) [] := by
  refine ret_of (ρ := [some (.dat (.tuple (xs.map D))), none, none]) (ret_ap ?_)
  rw [← all_zip_tail]
  refine cAll_map (f := fun p : α × α => lt p.1 p.2) ?_
  refine (nLc_all (D := fun p : α × α => .tuple [D p.1, D p.2]) (E := fun p => .bool (lt p.1 p.2)) (ys := xs.zip xs.tail) ?_ (by simp) ?_ ?_)
  · simp [cut_tail, ← List.map_tail, zipT_map]
  · intro y hy
    simp [h]
  · rw [List.length_zip]; omega

theorem Ord.lt {n : Int} {ps : List P2} (o : Ord n ps) {p : P2} (h : p ∈ ps) : p.1 ≠ p.2 := fun e => by
  have := o.po.irr p.1
  unfold rl at this
  rw [decide_eq_false_iff_not] at this
  exact this (by rw [show (p.1, p.1) = p from Prod.ext rfl e]; exact h)
theorem Ord.nd {n : Int} {ps : List P2} (o : Ord n ps) : ps.Nodup := o.srt.imp fun {a b} h e => by subst e; unfold ltP at h; omega
/-- all pairs of works of an order -/
def sq : List P2 := (List.range 16).flatMap fun (i : Nat) => (List.range 16).map fun (j : Nat) => ((i : Int), (j : Int))
theorem mem_sq {p : P2} (h1 : 0 ≤ p.1) (h2 : p.1 < 16) (h3 : 0 ≤ p.2) (h4 : p.2 < 16) : p ∈ sq := by
  unfold sq
  rw [List.mem_flatMap]
  refine ⟨p.1.toNat, List.mem_range.mpr (by omega), List.mem_map.mpr ⟨p.2.toNat, List.mem_range.mpr (by omega), Prod.ext ?_ ?_⟩⟩ <;> simp <;> omega
theorem Ord.len {n : Int} {ps : List P2} (o : Ord n ps) : ps.length ≤ 256 := by
  have := nodup_le (l := ps) (m := sq) o.nd fun p hp => by
    have := o.inn p hp
    have := o.n16
    exact mem_sq (by omega) (by omega) (by omega) (by omega)
  exact Nat.le_trans this (by decide +kernel)
theorem e_is_pair_of (n : Int) (p : P2) : s_is_pair_of [.dat (.int n), .dat (prD p)] = .ret (.bool ((decide (0 ≤ p.1) && decide (p.1 < n)) && (decide (0 ≤ p.2) && decide (p.2 < n)) && !decide (p.1 = p.2))) [] := by
  have key : cAll (nLc (lD (cV 1)) (gN 2) (tYes) (cCall 2 s_is_below (aD (cV 2) (aD (cV 0) (aNil)))) [2]) [some (.dat (.int n)), some (.dat (prD p)), none] = .ok (.bool ((decide (0 ≤ p.1) && decide (p.1 < n)) && (decide (0 ≤ p.2) && decide (p.2 < n)))) [some (.dat (.int n)), some (.dat (prD p)), none] := by
    refine (cAll_map (f := fun k : Int => decide (0 ≤ k) && decide (k < n)) (xs := [p.1, p.2]) ?_).trans (by simp; rfl)
    refine (nLc_all (D := PyData.int) (E := fun k => .bool (decide (0 ≤ k) && decide (k < n))) (ys := [p.1, p.2]) ?_ (by simp) ?_ ?_)
    · simp [prD]
    · intro k _
      simp [e_is_below]
    · simp
  have hr : s_is_row [.dat (prD p), .dat (.int 2)] = .ret (.bool true) [] := e_is_row _ _
  simp [s_is_pair_of, b_is_pair_of, bodyOf_ap, hr, key, ix_pr0, ix_pr1]

theorem kv_nd {n : Int} {ps : List P2} (o : Ord n ps) : (ps.map fun p => [p.1, p.2]).Nodup := by
  refine List.pairwise_map.mpr (o.nd.imp fun {a b} h e => h ?_)
  simp at e
  exact Prod.ext e.1 e.2
def kvOf (ps : List P2) : List (List Int × PyData) := ps.map fun p => ([p.1, p.2], .bool true)
theorem look_kv (ps : List P2) (a b : Int) : hasK [a, b] (kvOf ps) = rl ps a b := by
  unfold hasK
  rw [look_isSome]
  unfold kvOf rl
  refine decide_eq_decide.mpr ?_
  rw [List.map_map, List.mem_map]
  constructor
  · rintro ⟨p, hp, e⟩
    simp at e
    rw [← e.1, ← e.2]; exact hp
  · intro h
    exact ⟨_, h, rfl⟩
theorem e_are_closed {n : Int} {ps : List P2} (o : Ord n ps) : s_are_closed [.dat (.tuple (ps.map prD))] = .ret (.bool true) [] := by
  have hl := o.len
  refine ret_sat (sat_step (ρ1 := [some (.dat (.tuple (ps.map prD))), some (.dP (kvOf ps)), none, none, none, none, none]) ?_ (sat_seq ?_))
  · rw [sSet_ap, rDcP_map (D := prD) (K := fun p : P2 => [p.1, p.2]) (V := fun _ => .bool true) (ys := ps) (by simp) (by simp) (kv_nd o) (fun p _ => ⟨prD p, by simp, rfl⟩) (by omega)]
    simp [kvOf]
  refine sat_for (D := prD) (ys := ps) (fun _ ρ => ∃ j2 j3 j4 j5 j6, Jk j5 ∧ Jk j6 ∧ ρ = [some (.dat (.tuple (ps.map prD))), some (.dP (kvOf ps)), j2, j3, j4, j5, j6]) (by simp) ⟨_, _, _, _, _, jk_none, jk_none, rfl⟩ ?_ ?_
  · rintro pre p post ρ e ⟨j2, j3, j4, j5, j6, k5, k6, rfl⟩
    have hp : p ∈ ps := by rw [e]; simp
    have h1 : rl ps p.2 p.1 = false := o.po.asym (by unfold rl; simpa using hp)
    refine sat_turn (ρ1 := [some (.dat (.tuple (ps.map prD))), some (.dP (kvOf ps)), j2, some (.dat (.int p.1)), some (.dat (.int p.2)), j5, j6]) (by simp [prD]) ?_
    refine sat_if (c := false) (ρ1 := [some (.dat (.tuple (ps.map prD))), some (.dP (kvOf ps)), j2, some (.dat (.int p.1)), some (.dat (.int p.2)), j5, j6]) ?_ (fun h => nomatch h) (fun _ => ⟨_, _, rfl, rfl, _, _, _, _, _, k5, k6, rfl⟩)
    have h3 : ((ps.filter fun q => decide (q.1 = p.2)).all fun q => rl ps p.1 q.2) = true := by
      rw [List.all_eq_true]
      intro q hq
      rw [List.mem_filter] at hq
      refine o.po.tr p.1 p.2 q.2 (by unfold rl; simpa using hp) ?_
      have e2 : q.1 = p.2 := by simpa using hq.2
      rw [← e2]
      unfold rl
      simpa using hq.1
    refine (t_or (a := false) (b := false) (t_D (by simp [look_kv, h1])) fun _ => (t_not (a := true) (t_D ?_)))
    rw [← h3]
    refine cAll_map (f := fun q : P2 => rl ps p.1 q.2) (xs := ps.filter fun q => decide (q.1 = p.2)) (nLc_if (D := prD) (p := fun q => decide (q.1 = p.2)) (E := fun q => .bool (rl ps p.1 q.2)) (ys := ps) (by simp) (by simp [k5, k6]) (fun q hq => ?_) (by omega))
    by_cases h : q.1 = p.2 <;> simp [prD, h, look_kv]
  · rintro ρ' ⟨j2, j3, j4, j5, j6, _, _, rfl⟩
    exact ⟨rfl, _, _, rfl, rfl⟩
end Mo.K70
end
section
set_option autoImplicit false
set_option linter.all false
/-! V2: the printed functions of orders and N, evaluated. -/
namespace Mo.K70
open PySem Mo Mo.Or
theorem rises_pw {α : Type} {lt : α → α → Bool} : ∀ {xs : List α}, xs.Pairwise (fun a b => lt a b = true) → risesB lt xs = true
  | [], _ => rfl
  | [_], _ => rfl
  | x :: y :: r, h => by
    obtain ⟨h1, h2⟩ := List.pairwise_cons.mp h
    rw [risesB, h1 y (.head _), rises_pw h2]; rfl
theorem e_is_order_of {n : Int} {ps : List P2} (o : Ord n ps) : s_is_order_of [.dat (ordD n ps)] = .ret (.bool true) [] := by
  have hl := o.len
  have h1 := o.n1
  have h2 := o.n16
  have r3 : s_is_row [.dat (ordD n ps), .dat (.int 3)] = .ret (.bool true) [] := e_is_row _ _
  have bl : s_is_below [.dat (.int n), .dat (.int 17)] = .ret (.bool true) [] := by rw [e_is_below]; simp; omega
  have x0 : opIx (ordD n ps) (.int 0) = some (.str "order") := rfl
  have x1 : opIx (ordD n ps) (.int 1) = some (.int n) := rfl
  have x2 : opIx (ordD n ps) (.int 2) = some (.tuple (ps.map prD)) := rfl
  have ris : s_is_rising [.dat (.tuple (ps.map prD))] = .ret (.bool true) [] := by
    have := e_is_rising (D := prD) (lt := fun a b => decide (ltP a b)) (fun a b => by rw [prD_T, prD_T, opLt_T, lexI_P]) ps (by omega)
    rw [this, rises_pw (o.srt.imp fun h => decide_eq_true h)]
  refine ret_sat (sat_step (ρ1 := [some (.dat (ordD n ps)), none]) (by simp [r3, x0]) (sat_step (ρ1 := [some (.dat (ordD n ps)), none]) ?_ (sat_step (ρ1 := [some (.dat (ordD n ps)), none]) ?_ ?_)))
  · have : n ≠ 0 := by omega
    simp [bl, x1, x2, this]
  · refine if_no (ρ1 := [some (.dat (ordD n ps)), none]) (t_not (a := true) (t_D ?_)) rfl
    have h3 : (ps.all fun p => (decide (0 ≤ p.1) && decide (p.1 < n)) && (decide (0 ≤ p.2) && decide (p.2 < n)) && !decide (p.1 = p.2)) = true := by
      rw [List.all_eq_true]
      intro p hp
      have := o.inn p hp
      have := o.lt hp
      simp; omega
    rw [← h3]
    refine cAll_map (nLc_all (D := prD) (ys := ps) (by simp [x2]) (by simp) (fun p hp => ?_) (by omega))
    simp [x1, e_is_pair_of]
  · refine ⟨_, _, ret_ap (ρ1 := [some (.dat (ordD n ps)), none]) (d := .bool true) ?_, rfl⟩
    simp [x2, ris, e_are_closed o]
theorem e_want_order {n : Int} {ps : List P2} (o : Ord n ps) : s_want_order [.dat (ordD n ps)] = .ret (ordD n ps) [] := by
  simp [s_want_order, b_want_order, bodyOf_ap, e_is_order_of o]
theorem e_is_work_of (n : Int) (ps : List P2) (k : Int) : s_is_work_of [.dat (ordD n ps), .dat (.int k)] = .ret (.bool (decide (0 ≤ k) && decide (k < n))) [] := by
  have x1 : opIx (ordD n ps) (.int 1) = some (.int n) := rfl
  simp [s_is_work_of, b_is_work_of, bodyOf_ap, x1, e_is_below]
theorem e_works_of (n : Int) (ps : List P2) : s_works_of [.dat (ordD n ps)] = .ret (.int n) [] := rfl
theorem e_pairs_of (n : Int) (ps : List P2) : s_pairs_of [.dat (ordD n ps)] = .ret (.tuple (ps.map prD)) [] := rfl
theorem inL_pr (ps : List P2) (a b : Int) : inL (.tuple [.int a, .int b]) (ps.map prD) = some (rl ps a b) := (wr_pr.inL (by decide) (a, b) ps).trans (congrArg some (decide_eq_decide.mpr Iff.rfl))
theorem e_is_ahead_of (n : Int) (ps : List P2) (a b : Int) : s_is_ahead_of [.dat (ordD n ps), .dat (.int a), .dat (.int b)] = .ret (.bool (rl ps a b)) [] := by
  have x2 : opIx (ordD n ps) (.int 2) = some (.tuple (ps.map prD)) := rfl
  simp [s_is_ahead_of, b_is_ahead_of, bodyOf_ap, x2, inL_pr]
theorem e_are_free_of (n : Int) (ps : List P2) (a b : Int) : s_are_free_of [.dat (ordD n ps), .dat (.int a), .dat (.int b)] = .ret (.bool (free (rl ps) a b)) [] := by
  cases h1 : rl ps a b <;> cases h2 : rl ps b a <;> simp [s_are_free_of, b_are_free_of, bodyOf_ap, e_is_ahead_of, free, h1, h2]
/-- four works are an N -/
def nB (r : Rl) (a b c d : Int) : Bool := r a c && r b c && r b d && free r a b && free r a d && free r c d && decide (a ≠ b) && decide (a ≠ d) && decide (c ≠ d)
theorem nB_iff (r : Rl) (a b c d : Int) : nB r a b c d = true ↔ IsN r a b c d := by
  unfold nB
  simp only [Bool.and_eq_true, decide_eq_true_eq]
  exact ⟨fun ⟨⟨⟨⟨⟨⟨⟨⟨h1, h2⟩, h3⟩, h4⟩, h5⟩, h6⟩, h7⟩, h8⟩, h9⟩ => ⟨h1, h2, h3, h4, h5, h6, h7, h8, h9⟩, fun ⟨h1, h2, h3, h4, h5, h6, h7, h8, h9⟩ => ⟨⟨⟨⟨⟨⟨⟨⟨h1, h2⟩, h3⟩, h4⟩, h5⟩, h6⟩, h7⟩, h8⟩, h9⟩⟩
theorem met4 (a b c d : Int) : ((metI [a, b, c, d]).length : Int) < 4 ↔ (a = b ∨ a = c ∨ a = d ∨ b = c ∨ b = d ∨ c = d) := by
  simp only [metI, List.foldl_cons, List.foldl_nil]
  by_cases h1 : a = b <;> by_cases h2 : a = c <;> by_cases h3 : a = d <;> by_cases h4 : b = c <;> by_cases h5 : b = d <;> by_cases h6 : c = d <;> simp_all
@[simp] theorem cLenSetI_ap (l : Ls) (ρ : En) : cLenSetI l ρ = (l ρ).bind fun xs ρ => match intsOf xs with
  | some ns => if ns.length ≤ 4000 then .ok (.int (metI ns).length) ρ else .stuck
  | none => .stuck := rfl
@[simp] theorem intsOf4 (a b c d : Int) : intsOf [.int a, .int b, .int c, .int d] = some [a, b, c, d] := rfl
theorem po_ne {r : Rl} (h : Po r) {x y : Int} (e : r x y = true) : x ≠ y := h.ne e
theorem e_is_n_at {n : Int} {ps : List P2} (o : Ord n ps) (a b c d : Int) : s_is_n_at [.dat (ordD n ps), .dat (.int a), .dat (.int b), .dat (.int c), .dat (.int d)] = .ret (.bool (nB (rl ps) a b c d)) [] := by
  have P := o.po
  generalize hr : rl ps = r at P
  have ha : ∀ x y, s_is_ahead_of [.dat (ordD n ps), .dat (.int x), .dat (.int y)] = .ret (.bool (r x y)) [] := fun x y => by rw [e_is_ahead_of, hr]
  have hf : ∀ x y, s_are_free_of [.dat (ordD n ps), .dat (.int x), .dat (.int y)] = .ret (.bool (free r x y)) [] := fun x y => by rw [e_are_free_of, hr]
  by_cases hm : ((metI [a, b, c, d]).length : Int) < 4
  · have e : nB r a b c d = false := by
      cases k : nB r a b c d
      · rfl
      · have N := (nB_iff r a b c d).mp k
        rw [met4] at hm
        have n1 := P.ne N.ac
        have n2 := P.ne N.bc
        have n3 := P.ne N.bd
        have n4 := N.nab
        have n5 := N.nad
        have n6 := N.ncd
        omega
    rw [e]
    simp [s_is_n_at, b_is_n_at, bodyOf_ap, hm]
  · have e : nB r a b c d = (r a c && r b c && r b d && free r a b && free r a d && free r c d) := by
      rw [met4] at hm
      have h1 : a ≠ b := by omega
      have h2 : a ≠ d := by omega
      have h3 : c ≠ d := by omega
      simp [nB, h1, h2, h3]
    rw [e]
    cases k1 : r a c <;> cases k2 : r b c <;> cases k3 : r b d <;> cases k4 : free r a b <;> simp [s_is_n_at, b_is_n_at, bodyOf_ap, hm, ha, hf, k1, k2, k3, k4]
def quD (q : Int × Int × Int × Int) : PyData := .tuple [.int q.1, .int q.2.1, .int q.2.2.1, .int q.2.2.2]
theorem e_is_n_of {n : Int} {ps : List P2} (o : Ord n ps) (q : Int × Int × Int × Int) (h : 0 ≤ q.1 ∧ q.1 < n ∧ 0 ≤ q.2.1 ∧ q.2.1 < n ∧ 0 ≤ q.2.2.1 ∧ q.2.2.1 < n ∧ 0 ≤ q.2.2.2 ∧ q.2.2.2 < n) : s_is_n_of [.dat (ordD n ps), .dat (quD q)] = .ret (.bool (nB (rl ps) q.1 q.2.1 q.2.2.1 q.2.2.2)) [] := by
  have r4 : s_is_row [.dat (quD q), .dat (.int 4)] = .ret (.bool true) [] := e_is_row _ _
  have i0 : opIx (quD q) (.int 0) = some (.int q.1) := rfl
  have i1 : opIx (quD q) (.int 1) = some (.int q.2.1) := rfl
  have i2 : opIx (quD q) (.int 2) = some (.int q.2.2.1) := rfl
  have i3 : opIx (quD q) (.int 3) = some (.int q.2.2.2) := rfl
  refine ret_sat (sat_step (ρ1 := [some (.dat (ordD n ps)), some (.dat (quD q)), none]) ?_ ⟨_, _, ret_ap (ρ1 := [some (.dat (ordD n ps)), some (.dat (quD q)), none]) (by simp [i0, i1, i2, i3, e_is_n_at o]), rfl⟩)
  refine if_no (ρ1 := [some (.dat (ordD n ps)), some (.dat (quD q)), none]) (t_or (a := false) (b := false) (t_not (a := true) (t_D (by simp [r4]))) fun _ => t_not (a := true) (t_D ?_)) rfl
  have h3 : ([q.1, q.2.1, q.2.2.1, q.2.2.2].all fun k => decide (0 ≤ k) && decide (k < n)) = true := by
    simp; omega
  rw [← h3]
  refine cAll_map (nLc_all (D := PyData.int) (ys := [q.1, q.2.1, q.2.2.1, q.2.2.2]) (by simp [quD]) (by simp) (fun k hk => ?_) (by simp))
  simp [e_is_work_of]
end Mo.K70
end
section
set_option autoImplicit false
set_option linter.all false
/-! V3: all N of an order, the program's way and the law's. -/
namespace Mo.K70
open PySem Mo Mo.Or
abbrev Q4 := Int × Int × Int × Int
def iota (n : Int) : List Int := (List.range n.toNat).map fun (k : Nat) => (k : Int)
theorem mem_iota {n x : Int} : x ∈ iota n ↔ 0 ≤ x ∧ x < n := by
  unfold iota
  rw [List.mem_map]
  constructor
  · rintro ⟨k, hk, rfl⟩
    have := List.mem_range.mp hk
    omega
  · rintro ⟨h1, h2⟩
    exact ⟨x.toNat, List.mem_range.mpr (by omega), by omega⟩
theorem iota_lt (n : Int) : (iota n).Pairwise fun a b => a < b := by
  unfold iota
  refine List.pairwise_map.mpr (List.pairwise_lt_range.imp fun {a b} h => by omega)
theorem iota_len (n : Int) : (iota n).length = n.toNat := by unfold iota; simp
theorem iota_nodup (n : Int) : (iota n).Nodup := (iota_lt n).imp fun {a b} h => by omega
theorem rng_iota (n : Int) : rng 0 n = (iota n).map .int := by
  unfold rng iota
  rw [List.map_map]
  simp
@[simp] theorem nRg1_ap (f : Ex) (ρ : En) : nRg1 f ρ = (f ρ).bind fun d ρ => match d with | .int j => if big62 j && decide (j.toNat ≤ maxSeq) then .ok (rng 0 j) ρ else .stuck | _ => .stuck := rfl
theorem big62_of {n : Int} (h1 : -1000 ≤ n) (h2 : n ≤ 1000000) : big62 n = true := by
  unfold big62
  simp
  omega
theorem nRg1_at {f : Ex} {ρ : En} {n : Int} (h : f ρ = .ok (.int n) ρ) (h1 : -1000 ≤ n) (h2 : n ≤ 1000000) : nRg1 f ρ = .ok ((iota n).map .int) ρ := by
  rw [nRg1_ap, h, Out.bind_ok]
  show (if (big62 n && decide (n.toNat ≤ maxSeq)) = true then Out.ok (rng 0 n) ρ else .stuck) = _
  rw [big62_of h1 h2, if_pos (by simp [maxSeq]; omega), rng_iota]
def ql (q : Q4) : List Int := [q.1, q.2.1, q.2.2.1, q.2.2.2]
theorem quD_T (q : Q4) : quD q = tupI (ql q) := rfl
def srtQ (qs : List Q4) : List Q4 := qs.mergeSort fun a b => leT (ql a) (ql b)
theorem ql_inj {a b : Q4} (h : ql a = ql b) : a = b := by
  unfold ql at h
  simp only [List.cons.injEq, and_true] at h
  exact Prod.ext h.1 (Prod.ext h.2.1 (Prod.ext h.2.2.1 h.2.2.2))
theorem srtQ_eq {xs ys : List Q4} (nx : xs.Nodup) (ny : ys.Nodup) (h : ∀ q, q ∈ xs ↔ q ∈ ys) : srtQ xs = srtQ ys := by
  have pw : ∀ zs : List Q4, (srtQ zs).Pairwise fun a b => leT (ql a) (ql b) = true := fun zs =>
    List.pairwise_mergeSort (le := fun a b : Q4 => leT (ql a) (ql b)) (fun a b c => leT_trans _ _ _) (fun a b => leT_total _ _) zs
  have p : (srtQ xs).Perm (srtQ ys) := (List.mergeSort_perm _ _).trans (((List.perm_ext_iff_of_nodup nx ny).mpr h).trans (List.mergeSort_perm _ _).symm)
  exact List.Perm.eq_of_pairwise (le := fun a b => leT (ql a) (ql b) = true) (fun a b _ _ h1 h2 => ql_inj (leT_antisymm h1 h2)) (pw xs) (pw ys) p
theorem mem_srtQ {q : Q4} {qs : List Q4} : q ∈ srtQ qs ↔ q ∈ qs := List.mem_mergeSort
theorem sortD_quD (qs : List Q4) : sortD (qs.map quD) = (srtQ qs).map quD := sortD_map (D := quD) (le := fun a b => leT (ql a) (ql b)) (fun a b => dataLe_tupI (ql a) (ql b)) qs
theorem sortOk_quD (qs : List Q4) (hl : qs.length ≤ 16777216) : sortOk (qs.map quD) = true := sortOk_tupI (f := ql) (fun a => by simp [ql]) qs hl
theorem wr_qu : Wr quD 1 := ⟨fun p => by rw [quD_T]; exact fine_tupI _, fun a b h => ql_inj (wr_tupI.inj (ql a) (ql b) h)⟩

/-! ### the program's way -/
def unp (r : Rl) (x y : Int) : Bool := decide (x ≠ y) && !r x y && !r y x
theorem e_are_unpaired (ps : List P2) (x y : Int) : s_are_unpaired [.dP (kvOf ps), .dat (.int x), .dat (.int y)] = .ret (.bool (unp (rl ps) x y)) [] := by
  cases h1 : rl ps x y <;> cases h2 : rl ps y x <;> by_cases h : x = y <;> simp [s_are_unpaired, b_are_unpaired, bodyOf_ap, unp, look_kv, h1, h2, h]
def nsD (r : Rl) (W : List Int) (b c d : Int) : List Q4 := if r b d && unp r c d then (W.filter fun a => r a c && (unp r a b && unp r a d)).map fun a => (a, b, c, d) else []
def nsP (r : Rl) (W : List Int) (p : P2) : List Q4 := W.flatMap fun d => nsD r W p.1 p.2 d
def nsRaw (r : Rl) (W : List Int) (ps : List P2) : List Q4 := ps.flatMap (nsP r W)
theorem flatMap_len {α β : Type} {f : α → List β} {k : Nat} : ∀ (xs : List α), (∀ x ∈ xs, (f x).length ≤ k) → (xs.flatMap f).length ≤ xs.length * k
  | [], _ => by simp
  | x :: xs, h => by
    have h1 := h x (.head _)
    have h2 := flatMap_len xs fun y hy => h y (.tail _ hy)
    rw [List.flatMap_cons, List.length_append, List.length_cons, Nat.succ_mul]
    omega
theorem nsD_len (r : Rl) (W : List Int) (b c d : Int) : (nsD r W b c d).length ≤ W.length := by
  unfold nsD
  split
  · rw [List.length_map]; exact List.length_filter_le _ _
  · simp
theorem nsP_len (r : Rl) (W : List Int) (p : P2) : (nsP r W p).length ≤ W.length * W.length := flatMap_len W fun d _ => nsD_len r W p.1 p.2 d
theorem e_ns_of {n : Int} {ps : List P2} (o : Ord n ps) : s_ns_of [.dat (ordD n ps)] = .ret (.list ((srtQ (nsRaw (rl ps) (iota n) ps)).map quD)) [] := by
  have hl := o.len
  have n1 := o.n1
  have n16 := o.n16
  have lw : (iota n).length ≤ 16 := by rw [iota_len]; omega
  have lP : ∀ p, (nsP (rl ps) (iota n) p).length ≤ 256 := fun p => Nat.le_trans (nsP_len _ _ _) (Nat.mul_le_mul lw lw)
  refine ret_sat (sat_step (ρ1 := [some (.dat (ordD n ps)), some (.dP (kvOf ps)), some (.dat (.list ((iota n).map .int))), some (.own []), none, none, none, none, none, none]) ?_ (sat_seq ?_))
  · rw [sPar3_ap, rDcP_map (D := prD) (K := fun p : P2 => [p.1, p.2]) (V := fun _ => .bool true) (ys := ps) (by simp [e_pairs_of]) (by simp) (kv_nd o) (fun p _ => ⟨prD p, by simp, rfl⟩) (by omega)]
    simp only [Out.bind_ok, rD_ap, cN_ap]
    rw [nRg1_at (n := n) (by simp [e_works_of]) (by omega) (by omega)]
    simp [kvOf]
  refine sat_for (D := prD) (ys := ps) (fun pre ρ => ∃ j4 j5 j6 j7 j8 j9, Jk j9 ∧ ρ = [some (.dat (ordD n ps)), some (.dP (kvOf ps)), some (.dat (.list ((iota n).map .int))), some (.own ((nsRaw (rl ps) (iota n) pre).map quD)), j4, j5, j6, j7, j8, j9]) (by simp [kvOf]; intro a b _; rfl) ⟨_, _, _, _, _, _, jk_none, rfl⟩ ?_ ?_
  · rintro pre p post ρ e ⟨j4, j5, j6, j7, j8, j9, k9, rfl⟩
    have lpre : (nsRaw (rl ps) (iota n) pre).length ≤ 65536 := by
      have h1 := flatMap_len pre fun p _ => lP p
      have h2 : pre.length ≤ 256 := by rw [e] at hl; simp at hl; omega
      exact Nat.le_trans h1 (Nat.mul_le_mul_right 256 h2)
    refine sat_turn (ρ1 := [some (.dat (ordD n ps)), some (.dP (kvOf ps)), some (.dat (.list ((iota n).map .int))), some (.own ((nsRaw (rl ps) (iota n) pre).map quD)), j4, some (.dat (.int p.1)), some (.dat (.int p.2)), j7, j8, j9]) (by simp [prD]) ?_
    refine sat_for (D := PyData.int) (ys := iota n) (fun ds ρ => ∃ j7 j8 j9, Jk j9 ∧ ρ = [some (.dat (ordD n ps)), some (.dP (kvOf ps)), some (.dat (.list ((iota n).map .int))), some (.own ((nsRaw (rl ps) (iota n) pre ++ ds.flatMap fun d => nsD (rl ps) (iota n) p.1 p.2 d).map quD)), j4, some (.dat (.int p.1)), some (.dat (.int p.2)), j7, j8, j9]) (by simp) ⟨j7, j8, j9, k9, by simp⟩ ?_ ?_
    · rintro ds d rest ρ e2 ⟨j7, j8, j9, k9, rfl⟩
      have lds : (ds.flatMap fun d => nsD (rl ps) (iota n) p.1 p.2 d).length ≤ 256 := by
        have h1 := flatMap_len ds fun d _ => nsD_len (rl ps) (iota n) p.1 p.2 d
        have h2 : ds.length ≤ 16 := by rw [e2] at lw; simp at lw; omega
        exact Nat.le_trans h1 (Nat.mul_le_mul h2 lw)
      refine sat_turn (ρ1 := [some (.dat (ordD n ps)), some (.dP (kvOf ps)), some (.dat (.list ((iota n).map .int))), some (.own ((nsRaw (rl ps) (iota n) pre ++ ds.flatMap fun d => nsD (rl ps) (iota n) p.1 p.2 d).map quD)), j4, some (.dat (.int p.1)), some (.dat (.int p.2)), some (.dat (.int d)), j8, j9]) (by simp) ?_
      refine sat_if (c := rl ps p.1 d && unp (rl ps) p.2 d) (by simp [look_kv, e_are_unpaired]; rfl) (fun hc => ?_) (fun hc => ?_)
      · have lf := List.length_filter_le (fun a => rl ps a p.2 && (unp (rl ps) a p.1 && unp (rl ps) a d)) (iota n)
        have hD : nsD (rl ps) (iota n) p.1 p.2 d = ((iota n).filter fun a => rl ps a p.2 && (unp (rl ps) a p.1 && unp (rl ps) a d)).map fun a => (a, p.1, p.2, d) := by
          unfold nsD; rw [if_pos hc]
        refine sat_step (set_D (c_N (nLc_if (D := PyData.int) (p := fun a => rl ps a p.2 && (unp (rl ps) a p.1 && unp (rl ps) a d)) (E := PyData.int) (ys := iota n) (by simp) (by simp [k9]) (fun a ha => ?_) (by omega)))) ?_
        · cases h1 : rl ps a p.2 <;> simp [look_kv, e_are_unpaired, h1]
          cases h2 : unp (rl ps) a p.1 <;> cases h3 : unp (rl ps) a d <;> simp [h2, h3]
        · refine ⟨_, _, ?_, rfl, some (.dat (.int d)), some (.dat (.list (((iota n).filter fun a => rl ps a p.2 && (unp (rl ps) a p.1 && unp (rl ps) a d)).map .int))), j9, k9, rfl⟩
          simp only [sExt_ap, lV_ap]
          simp only [List.set_cons_succ, List.set_cons_zero, List.getElem?_cons_succ, List.getElem?_cons_zero, Out.bind_ok, cN_ap]
          rw [nLc_all (D := PyData.int) (E := fun a => quD (a, p.1, p.2, d)) (ys := (iota n).filter fun a => rl ps a p.2 && (unp (rl ps) a p.1 && unp (rl ps) a d)) (by simp) (by simp [k9]) (fun a ha => by simp [quD]) (by omega)]
          simp only [Out.bind_ok, List.getElem?_cons_succ, List.getElem?_cons_zero]
          rw [if_pos (by simp only [List.length_map, List.length_append, maxSeq]; omega)]
          simp [hD, List.map_append]
      · have hD : nsD (rl ps) (iota n) p.1 p.2 d = [] := by
          unfold nsD; rw [hc]; rfl
        exact ⟨_, _, rfl, rfl, some (.dat (.int d)), j8, j9, k9, by simp [hD]⟩
    · rintro ρ' ⟨j7, j8, j9, k9, rfl⟩
      exact ⟨rfl, j4, some (.dat (.int p.1)), some (.dat (.int p.2)), j7, j8, j9, k9, by simp [nsRaw, nsP]⟩
  · rintro ρ' ⟨j4, j5, j6, j7, j8, j9, k9, rfl⟩
    have lpre : (nsRaw (rl ps) (iota n) ps).length ≤ 65536 := by
      have h1 := flatMap_len ps fun p _ => lP p
      exact Nat.le_trans h1 (Nat.mul_le_mul_right 256 hl)
    refine ⟨rfl, _, _, ret_ap (c_N (n_sortD (xs := (nsRaw (rl ps) (iota n) ps).map quD) (by simp) (sortOk_quD _ (by omega)))), ?_⟩
    rw [sortD_quD]

/-! ### the law's way -/
@[simp] theorem iRg1_ap (f : Ex) (ρ : En) : iRg1 f ρ = (f ρ).bind fun d ρ => match d with | .int j => if big62 j then .ok (rng 0 j) ρ else .stuck | _ => .stuck := rfl
theorem iRg1_at {f : Ex} {ρ : En} {n : Int} (h : f ρ = .ok (.int n) ρ) (h1 : -1000 ≤ n) (h2 : n ≤ 1000000) : iRg1 f ρ = .ok ((iota n).map .int) ρ := by
  rw [iRg1_ap, h, Out.bind_ok]
  show (if big62 n = true then Out.ok (rng 0 n) ρ else .stuck) = _
  rw [big62_of h1 h2, if_pos rfl, rng_iota]
theorem iota4 : iota 4 = [0, 1, 2, 3] := rfl
def qat (q : Q4) (i : Int) : Int := if i = 0 then q.1 else if i = 1 then q.2.1 else if i = 2 then q.2.2.1 else q.2.2.2
theorem ix_qu (q : Q4) {i : Int} (h : i ∈ iota 4) : opIx (quD q) (.int i) = some (.int (qat q i)) := by
  rw [iota4] at h
  simp only [List.mem_cons, List.not_mem_nil, or_false] at h
  rcases h with rfl | rfl | rfl | rfl <;> rfl
def ahL (r : Rl) (q : Q4) : List P2 := (iota 4).flatMap fun i => ((iota 4).filter fun j => r (qat q i) (qat q j)).map fun j => (i, j)
theorem e__law_ahead (n : Int) (ps : List P2) (q : Q4) : s__law_ahead [.dat (ordD n ps), .dat (quD q)] = .ret (.list ((ahL (rl ps) q).map prD)) [] := by
  have x2 : opIx (ordD n ps) (.int 2) = some (.tuple (ps.map prD)) := rfl
  refine ret_sat (sat_step (ρ1 := [some (.dat (ordD n ps)), some (.dat (quD q)), some (.own []), none, none]) (by simp) (sat_seq ?_))
  refine sat_for (D := PyData.int) (ys := iota 4) (fun pre ρ => ∃ j3 j4, Jk j4 ∧ ρ = [some (.dat (ordD n ps)), some (.dat (quD q)), some (.own ((pre.flatMap fun i => ((iota 4).filter fun j => rl ps (qat q i) (qat q j)).map fun j => (i, j)).map prD)), j3, j4]) (iRg1_at (by simp) (by omega) (by omega)) ⟨none, none, jk_none, rfl⟩ ?_ ?_
  · rintro pre i post ρ e ⟨j3, j4, k4, rfl⟩
    have hi : i ∈ iota 4 := by rw [e]; simp
    have lpre : (pre.flatMap fun i => ((iota 4).filter fun j => rl ps (qat q i) (qat q j)).map fun j => (i, j)).length ≤ 16 := by
      have h1 := flatMap_len (f := fun i => ((iota 4).filter fun j => rl ps (qat q i) (qat q j)).map fun j => (i, j)) (k := 4) pre fun p _ => by
        rw [List.length_map]; exact List.length_filter_le _ (iota 4)
      have h2 : pre.length ≤ 4 := by
        have := congrArg List.length e
        rw [iota4] at this; simp at this; omega
      omega
    refine sat_turn (ρ1 := [some (.dat (ordD n ps)), some (.dat (quD q)), some (.own ((pre.flatMap fun i => ((iota 4).filter fun j => rl ps (qat q i) (qat q j)).map fun j => (i, j)).map prD)), some (.dat (.int i)), j4]) (by simp) ?_
    refine ⟨_, _, ?_, rfl, some (.dat (.int i)), j4, k4, rfl⟩
    simp only [sExt_ap, lV_ap]
    simp only [List.getElem?_cons_succ, List.getElem?_cons_zero, Out.bind_ok, cN_ap]
    rw [nLc_if (D := PyData.int) (p := fun j => rl ps (qat q i) (qat q j)) (E := fun j => prD (i, j)) (ys := iota 4) (iRg1_at (by simp) (by omega) (by omega)) (by simp [k4]) (fun j hj => by
      cases h : rl ps (qat q i) (qat q j) <;> simp [x2, ix_qu q hi, ix_qu q hj, inL_pr, h, prD]) (by rw [iota4]; simp)]
    simp only [Out.bind_ok, List.getElem?_cons_succ, List.getElem?_cons_zero]
    have := List.length_filter_le (fun j => rl ps (qat q i) (qat q j)) (iota 4)
    rw [iota4] at this
    simp only [List.length_cons, List.length_nil] at this
    rw [iota4] at lpre ⊢
    rw [if_pos (by simp only [List.length_map, List.length_append, maxSeq]; omega)]
    simp
  · rintro ρ' ⟨j3, j4, k4, rfl⟩
    exact ⟨rfl, _, _, ret_ap (d := .list ((ahL (rl ps) q).map prD)) (by simp; exact ⟨rfl, rfl⟩), rfl⟩
def lnB (r : Rl) (q : Q4) : Bool := decide ((metI (ql q)).length = 4) && decide (ahL r q = [(0, 2), (1, 2), (1, 3)])
theorem e__law_is_n (n : Int) (ps : List P2) (q : Q4) : s__law_is_n [.dat (ordD n ps), .dat (quD q)] = .ret (.bool (lnB (rl ps) q)) [] := by
  have h1 : opEq (.list ((ahL (rl ps) q).map prD)) (.list [.tuple [.int 0, .int 2], .tuple [.int 1, .int 2], .tuple [.int 1, .int 3]]) = some (.bool (decide (ahL (rl ps) q = [(0, 2), (1, 2), (1, 3)]))) :=
    (wr_pr.list).opEq (by decide) (ahL (rl ps) q) [(0, 2), (1, 2), (1, 3)]
  have h2 : s__law_ahead [.dat (ordD n ps), .dat (.tuple [.int q.1, .int q.2.1, .int q.2.2.1, .int q.2.2.2])] = .ret (.list ((ahL (rl ps) q).map prD)) [] := e__law_ahead n ps q
  have h3 : decide (((metI [q.1, q.2.1, q.2.2.1, q.2.2.2]).length : Int) = 4) = decide ((metI (ql q)).length = 4) := decide_eq_decide.mpr (by unfold ql; omega)
  unfold lnB
  rw [← h3]
  refine ret_sat ⟨_, _, ret_ap (c_and (ρ := [some (.dat (ordD n ps)), some (.dat (quD q))]) ?_ fun _ => ?_), rfl⟩
  · simp [quD]
  · simp [quD, h2, h1]
def fourB (r : Rl) (p p' : P2) : List Q4 := if lnB r (p.1, p'.1, p.2, p'.2) then [(p.1, p'.1, p.2, p'.2)] else []
def foursRaw (r : Rl) (ps : List P2) : List Q4 := ps.flatMap fun p => ps.flatMap fun p' => fourB r p p'
theorem fourB_len (r : Rl) (p p' : P2) : (fourB r p p').length ≤ 1 := by unfold fourB; split <;> simp
theorem e__law_fours {n : Int} {ps : List P2} (o : Ord n ps) : s__law_fours [.dat (ordD n ps)] = .ret (.list ((srtQ (foursRaw (rl ps) ps)).map quD)) [] := by
  have hl := o.len
  have x2 : opIx (ordD n ps) (.int 2) = some (.tuple (ps.map prD)) := rfl
  have lP : ∀ p : P2, (ps.flatMap fun p' => fourB (rl ps) p p').length ≤ 256 := fun p => Nat.le_trans (flatMap_len ps fun p' _ => fourB_len (rl ps) p p') (by omega)
  refine ret_sat (sat_step (ρ1 := [some (.dat (ordD n ps)), some (.own []), none, none, none, none]) (by simp) (sat_seq ?_))
  refine sat_for (D := prD) (ys := ps) (fun pre ρ => ∃ j2 j3 j4 j5, ρ = [some (.dat (ordD n ps)), some (.own ((pre.flatMap fun p => ps.flatMap fun p' => fourB (rl ps) p p').map quD)), j2, j3, j4, j5]) (by simp [x2]) ⟨none, none, none, none, rfl⟩ ?_ ?_
  · rintro pre p post ρ e ⟨j2, j3, j4, j5, rfl⟩
    have lpre : (pre.flatMap fun p => ps.flatMap fun p' => fourB (rl ps) p p').length ≤ 65536 := by
      have h2 : pre.length ≤ 256 := by rw [e] at hl; simp at hl; omega
      exact Nat.le_trans (flatMap_len pre fun p _ => lP p) (Nat.mul_le_mul_right 256 h2)
    refine sat_turn (ρ1 := [some (.dat (ordD n ps)), some (.own ((pre.flatMap fun p => ps.flatMap fun p' => fourB (rl ps) p p').map quD)), some (.dat (.int p.1)), some (.dat (.int p.2)), j4, j5]) (by simp [prD]) ?_
    refine sat_for (D := prD) (ys := ps) (fun ds ρ => ∃ j4 j5, ρ = [some (.dat (ordD n ps)), some (.own (((pre.flatMap fun p => ps.flatMap fun p' => fourB (rl ps) p p') ++ ds.flatMap fun p' => fourB (rl ps) p p').map quD)), some (.dat (.int p.1)), some (.dat (.int p.2)), j4, j5]) (by simp [x2]) ⟨j4, j5, by simp⟩ ?_ ?_
    · rintro ds p' rest ρ e2 ⟨j4, j5, rfl⟩
      have lds : (ds.flatMap fun p' => fourB (rl ps) p p').length ≤ 256 := by
        have h2 : ds.length ≤ 256 := by rw [e2] at hl; simp at hl; omega
        exact Nat.le_trans (flatMap_len ds fun p' _ => fourB_len (rl ps) p p') (by omega)
      refine sat_turn (ρ1 := [some (.dat (ordD n ps)), some (.own (((pre.flatMap fun p => ps.flatMap fun p' => fourB (rl ps) p p') ++ ds.flatMap fun p' => fourB (rl ps) p p').map quD)), some (.dat (.int p.1)), some (.dat (.int p.2)), some (.dat (.int p'.1)), some (.dat (.int p'.2))]) (by simp [prD]) ?_
      refine ⟨_, _, ?_, rfl, some (.dat (.int p'.1)), some (.dat (.int p'.2)), rfl⟩
      have hn : s__law_is_n [.dat (ordD n ps), .dat (.tuple [.int p.1, .int p'.1, .int p.2, .int p'.2])] = .ret (.bool (lnB (rl ps) (p.1, p'.1, p.2, p'.2))) [] := e__law_is_n n ps (p.1, p'.1, p.2, p'.2)
      have eX : (pre.flatMap fun p => ps.flatMap fun p' => fourB (rl ps) p p') ++ (ds ++ [p']).flatMap (fun p' => fourB (rl ps) p p') = ((pre.flatMap fun p => ps.flatMap fun p' => fourB (rl ps) p p') ++ ds.flatMap fun p' => fourB (rl ps) p p') ++ fourB (rl ps) p p' := by simp
      rw [eX]
      have lX : ((pre.flatMap fun p => ps.flatMap fun p' => fourB (rl ps) p p') ++ ds.flatMap fun p' => fourB (rl ps) p p').length ≤ 65792 := by rw [List.length_append]; omega
      generalize (pre.flatMap fun p => ps.flatMap fun p' => fourB (rl ps) p p') ++ (ds.flatMap fun p' => fourB (rl ps) p p') = Y at lX ⊢
      cases h : lnB (rl ps) (p.1, p'.1, p.2, p'.2)
      · simp [hn, h, fourB, maxSeq]
        omega
      · simp [hn, h, fourB, maxSeq, quD]
        omega
    · rintro ρ' ⟨j4, j5, rfl⟩
      exact ⟨rfl, some (.dat (.int p.1)), some (.dat (.int p.2)), j4, j5, by simp⟩
  · rintro ρ' ⟨j2, j3, j4, j5, rfl⟩
    have lpre : (foursRaw (rl ps) ps).length ≤ 65536 := Nat.le_trans (flatMap_len ps fun p _ => lP p) (Nat.mul_le_mul_right 256 hl)
    refine ⟨rfl, _, _, ret_ap (c_N (n_sortD (xs := (foursRaw (rl ps) ps).map quD) (by simp [foursRaw]) (sortOk_quD _ (by omega)))), ?_⟩
    rw [sortD_quD]
/-! ### both are one -/
theorem mem_nsRaw {n : Int} {ps : List P2} (o : Ord n ps) (q : Q4) : q ∈ nsRaw (rl ps) (iota n) ps ↔ IsN (rl ps) q.1 q.2.1 q.2.2.1 q.2.2.2 := by
  have inn : ∀ {x y : Int}, rl ps x y = true → (x ∈ iota n ∧ y ∈ iota n) := fun {x y} h => by
    have h' : (x, y) ∈ ps := by unfold rl at h; simpa using h
    have := o.inn _ h'
    exact ⟨mem_iota.mpr ⟨this.1, this.2.1⟩, mem_iota.mpr ⟨this.2.2.1, this.2.2.2⟩⟩
  have unp_iff : ∀ x y, unp (rl ps) x y = true ↔ x ≠ y ∧ free (rl ps) x y = true := fun x y => by
    unfold unp free
    rw [Bool.and_assoc, Bool.and_eq_true, decide_eq_true_eq]
  have free_sym : ∀ {x y}, free (rl ps) x y = true → free (rl ps) y x = true := fun {x y} h => by
    unfold free at h ⊢
    rw [Bool.and_comm]; exact h
  unfold nsRaw nsP nsD
  rw [List.mem_flatMap]
  constructor
  · rintro ⟨p, hp, h⟩
    rw [List.mem_flatMap] at h
    obtain ⟨d, hd, h⟩ := h
    by_cases c : (rl ps p.1 d && unp (rl ps) p.2 d) = true
    · rw [if_pos c] at h
      obtain ⟨a, ha, rfl⟩ := List.mem_map.mp h
      rw [List.mem_filter, Bool.and_eq_true, Bool.and_eq_true] at ha
      rw [Bool.and_eq_true] at c
      obtain ⟨_, h1, h2, h3⟩ := ha
      obtain ⟨c1, c2⟩ := c
      rw [unp_iff] at h2 h3 c2
      exact ⟨h1, by unfold rl; simpa using hp, c1, h2.2, h3.2, c2.2, h2.1, h3.1, c2.1⟩
    · rw [if_neg c] at h
      cases h
  · intro N
    refine ⟨(q.2.1, q.2.2.1), by have := N.bc; unfold rl at this; simpa using this, List.mem_flatMap.mpr ⟨q.2.2.2, (inn N.bd).2, ?_⟩⟩
    have c : (rl ps q.2.1 q.2.2.2 && unp (rl ps) q.2.2.1 q.2.2.2) = true := by
      rw [Bool.and_eq_true, unp_iff]
      exact ⟨N.bd, N.ncd, N.cd⟩
    rw [if_pos c]
    refine List.mem_map.mpr ⟨q.1, ?_, rfl⟩
    rw [List.mem_filter, Bool.and_eq_true, Bool.and_eq_true, unp_iff, unp_iff]
    exact ⟨(inn N.ac).1, N.ac, ⟨N.nab, N.ab⟩, N.nad, N.ad⟩
theorem ahL_iff {r : Rl} (h : Po r) (q : Q4) : ahL r q = [(0, 2), (1, 2), (1, 3)] ↔ (r q.1 q.2.2.1 = true ∧ r q.2.1 q.2.2.1 = true ∧ r q.2.1 q.2.2.2 = true ∧ r q.1 q.2.1 = false ∧ r q.2.1 q.1 = false ∧ r q.1 q.2.2.2 = false ∧ r q.2.2.2 q.1 = false ∧ r q.2.2.1 q.2.2.2 = false ∧ r q.2.2.2 q.2.2.1 = false) := by
  have i0 := h.irr q.1
  have i1 := h.irr q.2.1
  have i2 := h.irr q.2.2.1
  have i3 := h.irr q.2.2.2
  constructor
  · intro e
    have m : ∀ i j : Int, i ∈ iota 4 → j ∈ iota 4 → (r (qat q i) (qat q j) = true ↔ (i, j) ∈ [((0 : Int), (2 : Int)), (1, 2), (1, 3)]) := fun i j hi hj => by
      rw [← e]
      unfold ahL
      rw [List.mem_flatMap]
      constructor
      · intro h
        exact ⟨i, hi, List.mem_map.mpr ⟨j, List.mem_filter.mpr ⟨hj, h⟩, rfl⟩⟩
      · rintro ⟨i', _, h⟩
        obtain ⟨j', hj', e'⟩ := List.mem_map.mp h
        cases e'
        exact (List.mem_filter.mp hj').2
    have mf : ∀ i j : Int, i ∈ iota 4 → j ∈ iota 4 → (i, j) ∉ [((0 : Int), (2 : Int)), (1, 2), (1, 3)] → r (qat q i) (qat q j) = false := fun i j hi hj hn => by
      cases k : r (qat q i) (qat q j)
      · rfl
      · exact absurd ((m i j hi hj).mp k) hn
    have k0 : (0 : Int) ∈ iota 4 := by rw [iota4]; simp
    have k1 : (1 : Int) ∈ iota 4 := by rw [iota4]; simp
    have k2 : (2 : Int) ∈ iota 4 := by rw [iota4]; simp
    have k3 : (3 : Int) ∈ iota 4 := by rw [iota4]; simp
    exact ⟨(m 0 2 k0 k2).mpr (by simp), (m 1 2 k1 k2).mpr (by simp), (m 1 3 k1 k3).mpr (by simp), mf 0 1 k0 k1 (by simp), mf 1 0 k1 k0 (by simp), mf 0 3 k0 k3 (by simp), mf 3 0 k3 k0 (by simp), mf 2 3 k2 k3 (by simp), mf 3 2 k3 k2 (by simp)⟩
  · rintro ⟨h1, h2, h3, h4, h5, h6, h7, h8, h9⟩
    have h10 := h.asym h1
    have h11 := h.asym h2
    have h12 := h.asym h3
    unfold ahL
    rw [iota4]
    simp [qat, h1, h2, h3, h4, h5, h6, h7, h8, h9, h10, h11, h12, i0, i1, i2, i3]
theorem met4' (a b c d : Int) : (metI [a, b, c, d]).length = 4 ↔ ¬ (a = b ∨ a = c ∨ a = d ∨ b = c ∨ b = d ∨ c = d) := by
  rw [← met4]
  have h : (metI [a, b, c, d]).length ≤ 4 := by
    simp only [metI, List.foldl_cons, List.foldl_nil]
    by_cases h1 : a = b <;> by_cases h2 : a = c <;> by_cases h3 : a = d <;> by_cases h4 : b = c <;> by_cases h5 : b = d <;> by_cases h6 : c = d <;> simp_all
  omega
theorem lnB_iff {r : Rl} (h : Po r) (q : Q4) : lnB r q = true ↔ IsN r q.1 q.2.1 q.2.2.1 q.2.2.2 := by
  unfold lnB ql
  rw [Bool.and_eq_true, decide_eq_true_eq, decide_eq_true_eq, met4', ahL_iff h]
  constructor
  · rintro ⟨h0, h1, h2, h3, h4, h5, h6, h7, h8, h9⟩
    exact ⟨h1, h2, h3, free_true.mpr ⟨h4, h5⟩, free_true.mpr ⟨h6, h7⟩, free_true.mpr ⟨h8, h9⟩, fun e => h0 (by simp [e]), fun e => h0 (by simp [e]), fun e => h0 (by simp [e])⟩
  · intro N
    have a1 := free_true.mp N.ab
    have a2 := free_true.mp N.ad
    have a3 := free_true.mp N.cd
    have n1 := h.ne N.ac
    have n2 := h.ne N.bc
    have n3 := h.ne N.bd
    have n4 := N.nab
    have n5 := N.nad
    have n6 := N.ncd
    exact ⟨by omega, N.ac, N.bc, N.bd, a1.1, a1.2, a2.1, a2.2, a3.1, a3.2⟩
theorem mem_foursRaw {n : Int} {ps : List P2} (o : Ord n ps) (q : Q4) : q ∈ foursRaw (rl ps) ps ↔ IsN (rl ps) q.1 q.2.1 q.2.2.1 q.2.2.2 := by
  unfold foursRaw fourB
  rw [List.mem_flatMap]
  constructor
  · rintro ⟨p, hp, h⟩
    rw [List.mem_flatMap] at h
    obtain ⟨p', hp', h⟩ := h
    by_cases c : lnB (rl ps) (p.1, p'.1, p.2, p'.2) = true
    · rw [if_pos c] at h
      simp only [List.mem_singleton] at h
      subst h
      exact (lnB_iff o.po _).mp c
    · rw [if_neg c] at h
      cases h
  · intro N
    refine ⟨(q.1, q.2.2.1), by have := N.ac; unfold rl at this; simpa using this, List.mem_flatMap.mpr ⟨(q.2.1, q.2.2.2), by have := N.bd; unfold rl at this; simpa using this, ?_⟩⟩
    have c : lnB (rl ps) (q.1, q.2.1, q.2.2.1, q.2.2.2) = true := (lnB_iff o.po _).mpr N
    show q ∈ if lnB (rl ps) (q.1, q.2.1, q.2.2.1, q.2.2.2) = true then _ else _
    rw [if_pos c]
    exact .head _
theorem nsRaw_nodup {n : Int} {ps : List P2} (o : Ord n ps) : (nsRaw (rl ps) (iota n) ps).Nodup := by
  have key : ∀ b c d, ∀ x ∈ nsD (rl ps) (iota n) b c d, x.2 = (b, c, d) := fun b c d x hx => by
    unfold nsD at hx
    split at hx
    · obtain ⟨a, _, rfl⟩ := List.mem_map.mp hx
      rfl
    · cases hx
  unfold nsRaw
  refine List.pairwise_flatMap.mpr ⟨fun p _ => ?_, o.nd.imp fun {a b} h x hx y hy e => ?_⟩
  · unfold nsP
    refine List.pairwise_flatMap.mpr ⟨fun d _ => ?_, (iota_nodup n).imp fun {a b} h x hx y hy e => ?_⟩
    · unfold nsD
      split
      · exact List.pairwise_map.mpr (((iota_nodup n).filter _).imp fun {a b} h e => h (by cases e; rfl))
      · exact .nil
    · have h1 := key _ _ _ x hx
      have h2 := key _ _ _ y hy
      subst e
      rw [h1] at h2
      simp at h2
      exact h h2
  · unfold nsP at hx hy
    obtain ⟨d, _, hx⟩ := List.mem_flatMap.mp hx
    obtain ⟨d', _, hy⟩ := List.mem_flatMap.mp hy
    have h1 := key _ _ _ x hx
    have h2 := key _ _ _ y hy
    subst e
    rw [h1] at h2
    simp at h2
    exact h (Prod.ext h2.1 h2.2.1)
theorem foursRaw_nodup {n : Int} {ps : List P2} (o : Ord n ps) : (foursRaw (rl ps) ps).Nodup := by
  have key : ∀ p p', ∀ x ∈ fourB (rl ps) p p', x = (p.1, p'.1, p.2, p'.2) := fun p p' x hx => by
    unfold fourB at hx
    split at hx
    · simpa using hx
    · cases hx
  unfold foursRaw
  refine List.pairwise_flatMap.mpr ⟨fun p _ => ?_, o.nd.imp fun {a b} h x hx y hy e => ?_⟩
  · refine List.pairwise_flatMap.mpr ⟨fun d _ => ?_, o.nd.imp fun {a b} h x hx y hy e => ?_⟩
    · unfold fourB
      split
      · simp
      · exact .nil
    · have h1 := key _ _ x hx
      have h2 := key _ _ y hy
      subst e
      rw [h1] at h2
      simp at h2
      exact h (Prod.ext h2.1 h2.2)
  · obtain ⟨d, _, hx⟩ := List.mem_flatMap.mp hx
    obtain ⟨d', _, hy⟩ := List.mem_flatMap.mp hy
    have h1 := key _ _ x hx
    have h2 := key _ _ y hy
    subst e
    rw [h1] at h2
    simp at h2
    exact h (Prod.ext h2.1 h2.2.2.1)
/-- all N of an order -/
def nsL (n : Int) (ps : List P2) : List Q4 := srtQ (nsRaw (rl ps) (iota n) ps)
theorem fours_ns {n : Int} {ps : List P2} (o : Ord n ps) : srtQ (foursRaw (rl ps) ps) = nsL n ps :=
  srtQ_eq (foursRaw_nodup o) (nsRaw_nodup o) fun q => by rw [mem_foursRaw o, mem_nsRaw o]
theorem mem_nsL {n : Int} {ps : List P2} (o : Ord n ps) (q : Q4) : q ∈ nsL n ps ↔ IsN (rl ps) q.1 q.2.1 q.2.2.1 q.2.2.2 := by
  unfold nsL
  rw [mem_srtQ, mem_nsRaw o]
end Mo.K70
end
section
set_option autoImplicit false
set_option linter.all false
/-! V4: makings, judged: the printed functions, evaluated. -/
namespace Mo.K70
open PySem Mo Mo.Or
def wordS (b : Bool) : Str := if b then "behind" else "beside"
mutual
def nd : Nd → PyData
  | .work k => .tuple [.str "work", .int k]
  | .comp b ps => .tuple [.str (wordS b), .tuple (ndL ps)]
def ndL : List Nd → List PyData
  | [] => []
  | p :: r => nd p :: ndL r
end
theorem ndL_eq : ∀ ps : List Nd, ndL ps = ps.map nd
  | [] => rfl
  | p :: r => by rw [ndL, ndL_eq r]; rfl
theorem nd_comp (b : Bool) (ps : List Nd) : nd (.comp b ps) = .tuple [.str (wordS b), .tuple (ps.map nd)] := by rw [nd, ndL_eq]
theorem nd_work (k : Int) : nd (.work k) = .tuple [.str "work", .int k] := rfl
mutual
def hgt : Nd → Nat
  | .work _ => 0
  | .comp _ ps => hgtL ps + 1
def hgtL : List Nd → Nat
  | [] => 0
  | p :: r => max (hgt p) (hgtL r)
end
theorem hgt_mem {ps : List Nd} {p : Nd} (h : p ∈ ps) : hgt p ≤ hgtL ps := by
  induction ps with
  | nil => cases h
  | cons q r ih =>
    rw [hgtL]
    rcases List.mem_cons.mp h with rfl | h
    · exact Nat.le_max_left _ _
    · exact Nat.le_trans (ih h) (Nat.le_max_right _ _)
theorem hgtL_le {ps : List Nd} {k : Nat} (h : ∀ p ∈ ps, hgt p ≤ k) : hgtL ps ≤ k := by
  induction ps with
  | nil => exact Nat.zero_le _
  | cons q r ih => rw [hgtL]; exact Nat.max_le.mpr ⟨h q (.head _), ih fun p hp => h p (.tail _ hp)⟩
/-- no part is empty, two parts at least -/
inductive Full : Nd → Prop
  | work (k : Int) : Full (.work k)
  | comp (b : Bool) (ps : List Nd) (n : 2 ≤ ps.length) (h : ∀ p ∈ ps, Full p) : Full (.comp b ps)
theorem canon_full {p : Nd} (c : Canon p) : Full p := by
  induction c with
  | work k => exact .work k
  | comp b ps n h w r ih => exact .comp b ps n ih
theorem Full.ne {p : Nd} (h : Full p) : p.works ≠ [] := by
  induction h with
  | work k => simp [Nd.works]
  | comp b ps n h ih =>
    match ps, n with
    | p :: q :: ps, _ =>
      have := ih p (.head _)
      simp [Nd.works, worksL, this]
theorem Full.hgt {p : Nd} (h : Full p) : hgt p + 1 ≤ p.works.length := by
  induction h with
  | work k => simp [K70.hgt, Nd.works]
  | comp b ps n h ih =>
    have hl := worksL_len fun p hp => (h p hp).ne
    have : hgtL ps + 2 ≤ (worksL ps).length := by
      have h1 : hgtL ps ≤ (worksL ps).length - 2 := hgtL_le fun p hp => by
        have := ih p hp
        have := hl.2 p hp
        omega
      omega
    show hgtL ps + 1 + 1 ≤ (worksL ps).length
    exact this
theorem word_lay (b : Bool) : PyData.canLay0 (.str (wordS b)) = true := by cases b <;> decide +kernel
theorem fine_nd : ∀ p : Nd, Fine (2 * hgt p + 1) (nd p)
  | .work k => fine_tuple fun x hx => by
      simp only [List.mem_cons, List.not_mem_nil, or_false] at hx
      rcases hx with rfl | rfl
      · exact fine_str (by decide +kernel)
      · exact fine_int k
  | .comp b ps => by
    rw [nd_comp]
    have h2 : Fine (2 * hgtL ps + 2) (.tuple (ps.map nd)) := fine_tuple fun x hx => by
      obtain ⟨p, hp, rfl⟩ := List.mem_map.mp hx
      have := hgt_mem hp
      exact (fine_nd p).mono (by omega)
    have h3 : Fine (2 * hgtL ps + 3) (.tuple [.str (wordS b), .tuple (ps.map nd)]) := fine_tuple fun x hx => by
      simp only [List.mem_cons, List.not_mem_nil, or_false] at hx
      rcases hx with rfl | rfl
      · exact (fine_str (word_lay b)).mono (by omega)
      · exact h2
    exact h3.mono (by unfold hgt; omega)
theorem word_ne (b : Bool) : wordS b ≠ "work" := by cases b <;> decide
@[simp] theorem ix_w0 (k : Int) : opIx (nd (.work k)) (.int 0) = some (.str "work") := rfl
@[simp] theorem ix_w1 (k : Int) : opIx (nd (.work k)) (.int 1) = some (.int k) := rfl
@[simp] theorem ix_c0 (b : Bool) (ps : List Nd) : opIx (nd (.comp b ps)) (.int 0) = some (.str (wordS b)) := rfl
@[simp] theorem ix_c1 (b : Bool) (ps : List Nd) : opIx (nd (.comp b ps)) (.int 1) = some (.tuple (ps.map nd)) := by rw [nd_comp]; rfl
theorem worksL_app (A B : List Nd) : worksL (A ++ B) = worksL A ++ worksL B := by rw [worksL_eq, worksL_eq, worksL_eq]; simp
theorem works_part {ps A B : List Nd} {p : Nd} (e : ps = A ++ p :: B) : (worksL A).length + p.works.length ≤ (worksL ps).length := by
  rw [e, worksL_app, worksL, List.length_append, List.length_append]; omega
theorem e_works_in : ∀ (f : Nat) (p : Nd), hgt p < f → p.works.length ≤ 1000 → s_works_in f [.dat (nd p)] = .ret (.list (p.works.map .int)) []
  | 0, _, h, _ => absurd h (Nat.not_lt_zero _)
  | f + 1, .work k, _, _ => by
    show bodyOf (b_works_in (s_works_in f)) 2 false [.dat (nd (.work k))] = _
    refine ret_sat (sat_ret (ρ1 := [some (.dat (nd (.work k))), none, none]) (d := .list [.int k]) ?_ rfl)
    simp [b_works_in]
  | f + 1, .comp b ps, h, hl => by
    have hl' : (worksL ps).length ≤ 1000 := hl
    have ne := word_ne b
    show bodyOf (b_works_in (s_works_in f)) 2 false [.dat (nd (.comp b ps))] = _
    refine ret_sat (sat_step (ρ1 := [some (.dat (nd (.comp b ps))), none, none]) (by simp [ne]) (sat_step (ρ1 := [some (.dat (nd (.comp b ps))), some (.own []), none]) (by simp) (sat_seq ?_)))
    refine sat_for (D := nd) (ys := ps) (fun pre ρ => ∃ j, ρ = [some (.dat (nd (.comp b ps))), some (.own ((worksL pre).map .int)), j]) (by simp) ⟨none, rfl⟩ ?_ ?_
    · rintro pre p post ρ e ⟨j, rfl⟩
      have hp : p ∈ ps := by rw [e]; simp
      have h1 : hgt p < f := by have := hgt_mem hp; simp only [hgt] at h; omega
      have h2 := works_part e
      have ih := e_works_in f p h1 (by omega)
      refine ⟨_, _, ?_, rfl, some (.dat (nd p)), rfl⟩
      rw [worksL_app]
      simp [ih, worksL, maxSeq]
      omega
    · rintro ρ' ⟨j, rfl⟩
      exact ⟨rfl, _, _, ret_fz rfl, rfl⟩
theorem sw_eq : ∀ n, s__law_works_in n = s_works_in n
  | 0 => rfl
  | n + 1 => by
    show bodyOf (b__law_works_in (s__law_works_in n)) 2 false = bodyOf (b_works_in (s_works_in n)) 2 false
    rw [sw_eq n]; rfl
/-- judged makings: few works -/
structure Few (p : Nd) : Prop where
  full : Full p
  few : p.works.length ≤ 16
theorem Few.hgt {p : Nd} (h : Few p) : K70.hgt p < 24 := by have := h.full.hgt; have := h.few; omega
theorem Few.works {p : Nd} (h : Few p) : s_works_in 24 [.dat (nd p)] = .ret (.list (p.works.map .int)) [] := e_works_in 24 p h.hgt (by have := h.few; omega)
theorem Few.part {b : Bool} {ps : List Nd} (h : Few (.comp b ps)) {p : Nd} (hp : p ∈ ps) : Few p := by
  obtain ⟨hf, hw⟩ := h
  cases hf with
  | comp _ _ n hh =>
    refine ⟨hh p hp, ?_⟩
    have := (worksL_len fun p hp => (hh p hp).ne).2 p hp
    have : (worksL ps).length ≤ 16 := hw
    omega
theorem leastI_spec : ∀ (r : List Int) (m : Int), (leastI m r = m ∨ leastI m r ∈ r) ∧ leastI m r ≤ m ∧ ∀ x ∈ r, leastI m r ≤ x
  | [], m => ⟨.inl rfl, Int.le_refl _, fun _ h => by cases h⟩
  | x :: r, m => by
    rw [leastI]
    obtain ⟨h1, h2, h3⟩ := leastI_spec r (if x < m then x else m)
    have hm : (if x < m then x else m) ≤ m ∧ (if x < m then x else m) ≤ x := by split <;> omega
    refine ⟨?_, by omega, fun y hy => ?_⟩
    · rcases h1 with h1 | h1
      · by_cases c : x < m
        · rw [if_pos c] at h1 ⊢
          exact .inr (by rw [h1]; exact .head _)
        · rw [if_neg c] at h1 ⊢
          exact .inl h1
      · exact .inr (.tail _ h1)
    · rcases List.mem_cons.mp hy with rfl | hy
      · omega
      · exact h3 y hy
theorem min_srt {xs : List Int} (h : xs ≠ []) : minOf (xs.map .int) = some (.int ((srt xs).headD 0)) := by
  unfold minOf
  rw [intsOf_m]
  cases xs with
  | nil => exact absurd rfl h
  | cons m r =>
    obtain ⟨h1, h2, h3⟩ := leastI_spec r m
    have mem : leastI m r ∈ m :: r := by
      rcases h1 with h1 | h1
      · rw [h1]; exact .head _
      · exact .tail _ h1
    have le : ∀ x ∈ m :: r, leastI m r ≤ x := fun x hx => by
      rcases List.mem_cons.mp hx with rfl | hx
      · exact h2
      · exact h3 x hx
    show some (PyData.int (leastI m r)) = _
    have m1 := mem_srt.mpr mem
    cases hs : srt (m :: r) with
    | nil => rw [hs] at m1; cases m1
    | cons a s =>
      have pw := srt_pw (m :: r)
      rw [hs] at m1 pw
      have ha := le a (mem_srt.mp (by rw [hs]; exact .head _))
      have : a ≤ leastI m r := by
        rcases List.mem_cons.mp m1 with e | e
        · omega
        · exact (List.pairwise_cons.mp pw).1 _ e
      simp only [List.headD_cons]
      congr 2
      omega
theorem Few.e_least {p : Nd} (h : Few p) : s_least_work [.dat (nd p)] = .ret (.int p.least) [] := by
  simp [s_least_work, b_least_work, bodyOf_ap, h.works, min_srt h.full.ne, Nd.least]
theorem Few.e_leastL {p : Nd} (h : Few p) : s__law_least_work [.dat (nd p)] = .ret (.int p.least) [] := by
  simp [s__law_least_work, b__law_least_work, bodyOf_ap, sw_eq, h.works, min_srt h.full.ne, Nd.least]

/-! ### the pairs -/
theorem len_cross (p : Nd) : ∀ r : List Nd, (cross p r).length = p.works.length * (worksL r).length
  | [] => by simp [cross, worksL]
  | q :: r => by
    have ih := len_cross p r
    unfold cross at ih ⊢
    rw [List.flatMap_cons, List.length_append, ih, worksL, List.length_append, Nat.mul_add]
    congr 1
    have : ∀ xs : List Int, (xs.flatMap fun x => q.works.map fun y => (x, y)).length = xs.length * q.works.length := by
      intro xs
      induction xs with
      | nil => simp
      | cons x xs ih => rw [List.flatMap_cons, List.length_append, ih, List.length_map, List.length_cons, Nat.succ_mul]; omega
    exact this _
mutual
theorem len_pairs : ∀ p : Nd, p.pairs.length ≤ p.works.length * p.works.length
  | .work _ => by simp [Nd.pairs]
  | .comp b ps => len_pairsL b ps
theorem len_pairsL (b : Bool) : ∀ ps : List Nd, (pairsL b ps).length ≤ (worksL ps).length * (worksL ps).length
  | [] => by simp [pairsL]
  | p :: r => by
    have h1 := len_pairs p
    have h2 := len_pairsL b r
    have h3 := len_cross p r
    rw [pairsL, worksL, List.length_append, List.length_append, List.length_append]
    have h4 : (if b = true then cross p r else []).length ≤ p.works.length * (worksL r).length := by
      split
      · omega
      · simp
    rw [Nat.add_mul, Nat.mul_add, Nat.mul_add]
    have := Nat.zero_le ((worksL r).length * p.works.length)
    omega
end
theorem len_preP (b : Bool) : ∀ (A r : List Nd), (preP b A r).length ≤ (worksL (A ++ r)).length * (worksL (A ++ r)).length
  | [], r => by simp [preP]
  | a :: A, r => by
    have h1 := len_pairs a
    have h2 := len_preP b A r
    have h3 := len_cross a (A ++ r)
    rw [preP, seg, List.cons_append, worksL, List.length_append, List.length_append, List.length_append]
    have h4 : (if b = true then cross a (A ++ r) else []).length ≤ a.works.length * (worksL (A ++ r)).length := by
      split
      · omega
      · simp
    rw [Nat.add_mul, Nat.mul_add, Nat.mul_add]
    have := Nat.zero_le ((worksL (A ++ r)).length * a.works.length)
    omega
theorem cut_from (xs : List PyData) (k : Nat) : cut xs (some (k : Int)) none = xs.drop k := by
  have e1 : sIx xs.length 0 (some (k : Int)) = min k xs.length := by
    show (if (k : Int) < 0 then ((k : Int) + (xs.length : Int)).toNat else min (k : Int).toNat xs.length) = _
    rw [if_neg (by omega)]; simp
  have e2 : sIx xs.length xs.length none = xs.length := rfl
  unfold cut
  rw [e1, e2]
  by_cases h : k ≤ xs.length
  · have : min k xs.length = k := by omega
    rw [this]
    refine List.take_of_length_le ?_
    rw [List.length_drop]
    omega
  · have : min k xs.length = xs.length := by omega
    rw [this, List.drop_eq_nil_of_le (Nat.le_refl _), List.drop_eq_nil_of_le (by omega)]; simp
@[simp] theorem s_bb : ¬ (Str.ofString "beside" = Str.ofString "behind") := by decide
@[simp] theorem s_bb2 : ¬ (Str.ofString "behind" = Str.ofString "beside") := by decide
@[simp] theorem s_bw : ¬ (Str.ofString "beside" = Str.ofString "work") := by decide
@[simp] theorem s_hw : ¬ (Str.ofString "behind" = Str.ofString "work") := by decide
theorem sq_le {a : Nat} (h : a ≤ 1000) : a * a ≤ 1000000 := Nat.le_trans (Nat.mul_le_mul h h) (by decide)
theorem e_pairs_in : ∀ (f : Nat) (p : Nd), hgt p < f → hgt p < 24 → p.works.length ≤ 1000 → s_pairs_in f [.dat (nd p)] = .ret (.list (p.pairs.map prD)) []
  | 0, _, h, _, _ => absurd h (Nat.not_lt_zero _)
  | f + 1, .work k, _, _, _ => by
    show bodyOf (b_pairs_in (s_pairs_in f)) 6 false [.dat (nd (.work k))] = _
    refine ret_sat (sat_ret (ρ1 := [some (.dat (nd (.work k))), none, none, none, none, none, none]) (d := .list []) ?_ rfl)
    simp [b_pairs_in]
  | f + 1, .comp b ps, h, h24, hl => by
    have hl' : (worksL ps).length ≤ 1000 := hl
    have ne := word_ne b
    show bodyOf (b_pairs_in (s_pairs_in f)) 6 false [.dat (nd (.comp b ps))] = _
    refine ret_sat (sat_step (ρ1 := [some (.dat (nd (.comp b ps))), none, none, none, none, none, none]) (by simp [ne]) (sat_step (ρ1 := [some (.dat (nd (.comp b ps))), some (.own []), none, none, none, none, none]) (by simp) (sat_seq ?_)))
    refine sat_for (D := fun y : Nd × Nat => .tuple [.int (y.2 : Int), nd y.1]) (ys := ps.zipIdx) (fun pre ρ => ∃ post : List (Nd × Nat), ∃ j2 j3 j4 j5 j6, Jk j6 ∧ ps.zipIdx = pre ++ post ∧ ρ = [some (.dat (nd (.comp b ps))), some (.own ((preP b (pre.map (·.1)) (post.map (·.1))).map prD)), j2, j3, j4, j5, j6]) ?_ ⟨ps.zipIdx, none, none, none, none, none, jk_none, rfl, rfl⟩ ?_ ?_
    · simp [enumT_eq, List.zipIdx_map]
    · rintro pre ⟨p, i⟩ post ρ e ⟨post', j2, j3, j4, j5, j6, k6, e', rfl⟩
      obtain ⟨hi, hps⟩ := zipIdx_split e
      have hpost : post' = (p, i) :: post := by rw [e'] at e; exact List.append_cancel_left e
      subst hpost
      simp only [List.map_cons] at hi hps ⊢
      generalize hA : pre.map (·.1) = A at hps
      generalize hB : post.map (·.1) = B at hps
      have hiA : i = A.length := by rw [← hA, List.length_map]; exact hi
      have hp : p ∈ ps := by rw [hps]; simp
      have h1 : hgt p < f := by have := hgt_mem hp; simp only [hgt] at h; omega
      have h2 : hgt p < 24 := by have := hgt_mem hp; simp only [hgt] at h24; omega
      have hw := works_part hps
      have lA : (preP b A (p :: B)).length ≤ 1000000 := by
        have := len_preP b A (p :: B)
        rw [← hps] at this
        exact Nat.le_trans this (sq_le hl')
      have lp : p.pairs.length ≤ 1000000 := Nat.le_trans (len_pairs p) (sq_le (by omega))
      have ih := e_pairs_in f p h1 h2 (by omega)
      have wp : s_works_in 24 [.dat (nd p)] = .ret (.list (p.works.map .int)) [] := e_works_in 24 p h2 (by omega)
      refine sat_turn (ρ1 := [some (.dat (nd (.comp b ps))), some (.own ((preP b A (p :: B)).map prD)), some (.dat (.int (i : Int))), some (.dat (nd p)), j4, j5, j6]) (by simp) ?_
      refine sat_step (ρ1 := [some (.dat (nd (.comp b ps))), some (.own ((preP b A (p :: B) ++ p.pairs).map prD)), some (.dat (.int (i : Int))), some (.dat (nd p)), j4, j5, j6]) ?_ ?_
      · simp [ih, maxSeq]
        omega
      refine sat_for (D := nd) (ys := if b then B else []) (fun ds ρ => ∃ j4 j5 j6, Jk j6 ∧ ρ = [some (.dat (nd (.comp b ps))), some (.own ((preP b A (p :: B) ++ p.pairs ++ cross p ds).map prD)), some (.dat (.int (i : Int))), some (.dat (nd p)), j4, j5, j6]) ?_ ⟨j4, j5, j6, k6, by simp [cross]⟩ ?_ ?_
      · cases b with
        | false => simp [wordS]
        | true =>
          have e1 : cut (ps.map nd) (some ((i : Int) + 1)) none = B.map nd := by
            have : ((i : Int) + 1) = ((i + 1 : Nat) : Int) := by omega
            have e3 : (ps.map nd) = (A.map nd ++ [nd p]) ++ B.map nd := by rw [hps]; simp
            rw [this, cut_from, e3]
            exact List.drop_left' (by simp [hiA])
          simp [wordS, e1]
      · rintro ds q rest ρ e2 ⟨j4, j5, j6, k6, rfl⟩
        have hqB : b = true ∧ B = ds ++ q :: rest := by
          cases b with
          | false => simp at e2
          | true => exact ⟨rfl, e2⟩
        have hq : q ∈ ps := by rw [hps, hqB.2]; simp
        have q2 : hgt q < 24 := by have := hgt_mem hq; simp only [hgt] at h24; omega
        have hwB : p.works.length + (worksL B).length ≤ 1000 := by
          have : (worksL ps).length = (worksL A).length + (p.works.length + (worksL B).length) := by rw [hps, worksL_app, worksL, List.length_append, List.length_append]
          omega
        have hwq := works_part hqB.2
        have wq : s_works_in 24 [.dat (nd q)] = .ret (.list (q.works.map .int)) [] := e_works_in 24 q q2 (by omega)
        have lc : (cross p ds).length ≤ 1000000 := by
          rw [len_cross]
          exact Nat.le_trans (Nat.mul_le_mul (show _ ≤ 1000 by omega) (show _ ≤ 1000 by omega)) (by decide)
        generalize hX : preP b A (p :: B) ++ p.pairs ++ cross p ds = Y
        have lY : Y.length ≤ 3000000 := by rw [← hX, List.length_append, List.length_append]; omega
        have eY : preP b A (p :: B) ++ p.pairs ++ cross p (ds ++ [q]) = Y ++ p.works.flatMap fun x => q.works.map fun y => (x, y) := by
          rw [← hX]; simp [cross]
        rw [eY]
        refine sat_turn (ρ1 := [some (.dat (nd (.comp b ps))), some (.own (Y.map prD)), some (.dat (.int (i : Int))), some (.dat (nd p)), some (.dat (nd q)), j5, j6]) (by simp) ?_
        refine sat_for (D := PyData.int) (ys := p.works) (fun xs ρ => ∃ j5 j6, Jk j6 ∧ ρ = [some (.dat (nd (.comp b ps))), some (.own ((Y ++ xs.flatMap fun x => q.works.map fun y => (x, y)).map prD)), some (.dat (.int (i : Int))), some (.dat (nd p)), some (.dat (nd q)), j5, j6]) (by simp [wp]) ⟨j5, j6, k6, by simp⟩ ?_ ?_
        · rintro xs x rest' ρ e3 ⟨j5, j6, k6, rfl⟩
          have lx : (xs.flatMap fun x => q.works.map fun y => (x, y)).length ≤ 1000000 := by
            have h1 := flatMap_len (f := fun x => q.works.map fun y => (x, y)) (k := q.works.length) xs fun x _ => by simp
            have h2 : xs.length ≤ 1000 := by
              have := congrArg List.length e3
              simp at this; omega
            exact Nat.le_trans h1 (Nat.le_trans (Nat.mul_le_mul h2 (show _ ≤ 1000 by omega)) (by decide))
          generalize hZ : (Y ++ xs.flatMap fun x => q.works.map fun y => (x, y)) = Z
          have lZ : Z.length ≤ 4000000 := by rw [← hZ, List.length_append]; omega
          have eZ : (Y ++ (xs ++ [x]).flatMap fun x => q.works.map fun y => (x, y)) = Z ++ q.works.map fun y => (x, y) := by rw [← hZ]; simp
          rw [eZ]
          refine sat_turn (ρ1 := [some (.dat (nd (.comp b ps))), some (.own (Z.map prD)), some (.dat (.int (i : Int))), some (.dat (nd p)), some (.dat (nd q)), some (.dat (.int x)), j6]) (by simp) ?_
          refine ⟨_, _, ?_, rfl, some (.dat (.int x)), j6, k6, rfl⟩
          simp only [sExt_ap, lV_ap]
          simp only [List.getElem?_cons_succ, List.getElem?_cons_zero, Out.bind_ok, cN_ap]
          rw [nLc_all (D := PyData.int) (E := fun y => prD (x, y)) (ys := q.works) (by simp [wq]) (by simp [k6]) (fun y hy => by simp [prD]) (by omega)]
          simp only [Out.bind_ok, List.getElem?_cons_succ, List.getElem?_cons_zero]
          rw [if_pos (by simp only [List.length_map, maxSeq]; omega)]
          simp
        · rintro ρ' ⟨j5, j6, k6, rfl⟩
          exact ⟨rfl, some (.dat (nd q)), j5, j6, k6, rfl⟩
      · rintro ρ' ⟨j4, j5, j6, k6, rfl⟩
        refine ⟨rfl, post, some (.dat (.int (i : Int))), some (.dat (nd p)), j4, j5, j6, k6, by rw [e]; simp, ?_⟩
        have : preP b (List.map (fun x => x.1) (pre ++ [(p, i)])) (post.map (·.1)) = preP b A (p :: B) ++ p.pairs ++ cross p (if b then B else []) := by
          rw [List.map_append, hA, hB]
          show preP b (A ++ [p]) B = _
          rw [preP_snoc, seg, List.append_assoc]
          cases b <;> simp [cross]
        rw [this]
    · rintro ρ' ⟨post, j2, j3, j4, j5, j6, k6, e, rfl⟩
      have hp : post = [] := by
        simpa using e
      subst hp
      refine ⟨rfl, _, _, ret_fz rfl, ?_⟩
      have : ps.zipIdx.map (·.1) = ps := List.zipIdx_map_fst 0 ps
      rw [this]
      simp [preP_all, Nd.pairs]
theorem sp_eq : ∀ n, s__law_pairs_in n = s_pairs_in n
  | 0 => rfl
  | n + 1 => by
    show bodyOf (b__law_pairs_in (s__law_pairs_in n)) 6 false = bodyOf (b_pairs_in (s_pairs_in n)) 6 false
    rw [sp_eq n]
    unfold b__law_pairs_in b_pairs_in
    rw [sw_eq]
theorem Few.pairs {p : Nd} (h : Few p) : s_pairs_in 24 [.dat (nd p)] = .ret (.list (p.pairs.map prD)) [] := e_pairs_in 24 p h.hgt h.hgt (by have := h.few; omega)
end Mo.K70
end
section
set_option autoImplicit false
set_option linter.all false
/-! V5: makings, judged: the printed functions, evaluated. -/
namespace Mo.K70
open PySem Mo Mo.Or
theorem Few.canon_works {p : Nd} (h : Few p) : p.works.length ≤ 1000 := by have := h.few; omega
theorem rises_map {α : Type} (f : α → Int) {xs : List α} (h : xs.Pairwise fun a b => f a < f b) : risesB (fun a b : Int => decide (a < b)) (xs.map f) = true :=
  rises_pw (List.pairwise_map.mpr (h.imp fun h => by simpa using h))
theorem in_words (b : Bool) : inL (.str (wordS b)) [.str "behind", .str "beside"] = some true := by cases b <;> decide +kernel
theorem e_is_node_of : ∀ (f : Nat) (p : Nd) (m : Int), hgt p < f → Canon p → Few p → (∀ x ∈ p.works, 0 ≤ x ∧ x < m) → s_is_node_of f [.dat (.int m), .dat (nd p)] = .ret (.bool true) []
  | 0, _, _, h, _, _, _ => absurd h (Nat.not_lt_zero _)
  | f + 1, .work k, m, _, _, _, hm => by
    show bodyOf (b_is_node_of (s_is_node_of f)) 4 false [.dat (.int m), .dat (nd (.work k))] = _
    have r2 : s_is_row [.dat (nd (.work k)), .dat (.int 2)] = .ret (.bool true) [] := e_is_row _ _
    have := hm k (by simp [Nd.works])
    refine ret_sat (sat_step (ρ1 := [some (.dat (.int m)), some (.dat (nd (.work k))), none, none, none, none]) (by simp [r2]) (sat_ret (ρ1 := [some (.dat (.int m)), some (.dat (nd (.work k))), none, none, none, none]) (d := .bool true) ?_ rfl))
    simp [e_is_below]
    omega
  | f + 1, .comp b ps, m, h, .comp _ _ n hc hw hr, few, hm => by
    show bodyOf (b_is_node_of (s_is_node_of f)) 4 false [.dat (.int m), .dat (nd (.comp b ps))] = _
    have ne := word_ne b
    have r2 : s_is_row [.dat (nd (.comp b ps)), .dat (.int 2)] = .ret (.bool true) [] := by rw [nd_comp]; exact e_is_row _ _
    have hlen : ps.length ≤ 16 := by
      have := (worksL_len fun p hp => (hc p hp).ne).1
      have : (worksL ps).length ≤ 16 := few.few
      omega
    have ih : ∀ p ∈ ps, s_is_node_of f [.dat (.int m), .dat (nd p)] = .ret (.bool true) [] := fun p hp =>
      e_is_node_of f p m (by have := hgt_mem hp; simp only [hgt] at h; omega) (hc p hp) (few.part hp) fun x hx => hm x (mem_worksL.mpr ⟨p, hp, hx⟩)
    refine ret_sat (sat_step (ρ1 := [some (.dat (.int m)), some (.dat (nd (.comp b ps))), none, none, none, none]) (by simp [r2]) (sat_step (ρ1 := [some (.dat (.int m)), some (.dat (nd (.comp b ps))), none, none, none, none]) (by simp [ne]) (sat_step (ρ1 := [some (.dat (.int m)), some (.dat (nd (.comp b ps))), none, none, none, none]) ?_ (sat_step (ρ1 := [some (.dat (.int m)), some (.dat (nd (.comp b ps))), none, none, none, none]) ?_ (sat_step (ρ1 := [some (.dat (.int m)), some (.dat (nd (.comp b ps))), none, some (.dat (.list ((ps.map Nd.least).map .int))), none, none]) ?_ ?_)))))
    · simp [in_words]
      omega
    · refine if_no (ρ1 := [some (.dat (.int m)), some (.dat (nd (.comp b ps))), none, none, none, none]) (t_not (a := true) (t_D ?_)) rfl
      have h3 : (ps.all fun p => true) = true := by simp
      rw [← h3]
      refine cAll_map (nLc_all (D := nd) (ys := ps) (by simp) (by simp) (fun p hp => ?_) (by omega))
      have w1 := hw p hp
      have : opNe (.str (wordS b)) (.str (wordS b)) = some (.bool false) := by rw [opNe_s]; simp
      cases p with
      | work k => simp [ih _ hp, Ne.symm ne]
      | comp b' qs =>
        have hb : wordS b' ≠ wordS b := by
          have : b' ≠ b := by simpa [Nd.isC] using w1
          cases b <;> cases b' <;> first | exact absurd rfl this | decide
        simp [ih _ hp, hb]
    · rw [sSet_ap, rD_ap, cN_ap, nLc_all (D := nd) (E := fun p => .int p.least) (ys := ps) (by simp) (by simp) (fun p hp => by simp [(few.part hp).e_least]) (by omega)]
      simp
    · refine ⟨_, _, ret_ap (c_or (ρ := [some (.dat (.int m)), some (.dat (nd (.comp b ps))), none, some (.dat (.list ((ps.map Nd.least).map .int))), none, none]) (a := b) (b := risesB (fun a b : Int => decide (a < b)) (ps.map Nd.least)) ?_ fun hb => ?_), ?_⟩
      · cases b <;> simp [wordS]
      · rw [← all_zip_tail]
        refine cAll_map (f := fun p : Int × Int => decide (p.1 < p.2)) (nLc_all (D := fun p : Int × Int => .tuple [.int p.1, .int p.2]) (ys := (ps.map Nd.least).zip (ps.map Nd.least).tail) ?_ (by simp) (fun y hy => by simp) (by rw [List.length_zip, List.length_map]; omega))
        simp only [iZipD_ap, cSl_ap, cV_ap, oSome_ap, oNone_ap, cK_ap]
        simp only [List.getElem?_cons_succ, List.getElem?_cons_zero, Out.bind_ok, cut_tail, ← List.map_tail, zipT_map]
      · cases b with
        | true => rfl
        | false => rw [rises_map Nd.least (hr rfl)]; rfl

/-! ### the order of a making -/
def pl (p : P2) : List Int := [p.1, p.2]
def srtP (ps : List P2) : List P2 := ps.mergeSort fun a b => leT (pl a) (pl b)
theorem srtP_perm (ps : List P2) : (srtP ps).Perm ps := List.mergeSort_perm _ _
theorem sortD_pr (ps : List P2) : sortD (ps.map prD) = (srtP ps).map prD := sortD_map (D := prD) (le := fun a b => leT (pl a) (pl b)) (fun a b => dataLe_tupI (pl a) (pl b)) ps
theorem sortOk_pr (ps : List P2) (hl : ps.length ≤ 16777216) : sortOk (ps.map prD) = true := sortOk_tupI (f := pl) (fun a => by simp [pl]) ps hl
theorem srtP_lt {ps : List P2} (h : ps.Nodup) : (srtP ps).Pairwise ltP := by
  have pw : (srtP ps).Pairwise fun a b => leT (pl a) (pl b) = true := List.pairwise_mergeSort (le := fun a b : P2 => leT (pl a) (pl b)) (fun a b c => leT_trans _ _ _) (fun a b => leT_total _ _) ps
  have nd : (srtP ps).Nodup := (srtP_perm ps).nodup_iff.mpr h
  refine (List.pairwise_and_iff.mpr ⟨pw, nd⟩).imp fun {a b} ⟨h1, h2⟩ => ?_
  rw [leT_iff] at h1
  rcases h1 with h1 | h1
  · have := (lexI_P a b).symm.trans h1
    simpa using this
  · unfold pl at h1
    simp at h1
    exact absurd (Prod.ext h1.1 h1.2) h2
theorem ltP_ext {xs ys : List P2} (hx : xs.Pairwise ltP) (hy : ys.Pairwise ltP) (h : ∀ x, x ∈ xs ↔ x ∈ ys) : xs = ys := by
  have nx : xs.Nodup := hx.imp fun {a b} h e => by subst e; unfold ltP at h; omega
  have ny : ys.Nodup := hy.imp fun {a b} h e => by subst e; unfold ltP at h; omega
  exact List.Perm.eq_of_pairwise (le := ltP) (fun a b _ _ h1 h2 => by unfold ltP at h1 h2; exact Prod.ext (by omega) (by omega)) hx hy ((List.perm_ext_iff_of_nodup nx ny).mpr h)
/-- p is the making of the order n, ps -/
structure Made (n : Int) (ps : List P2) (p : Nd) : Prop where
  canon : Canon p
  nodup : p.works.Nodup
  works : srt p.works = iota n
  pairs : srtP p.pairs = ps
  n16 : n ≤ 16
theorem Made.few {n : Int} {ps : List P2} {p : Nd} (m : Made n ps p) : Few p := ⟨canon_full m.canon, by
  have := srt_len p.works
  rw [m.works, iota_len] at this
  have := m.n16
  omega⟩
theorem Made.mem {n : Int} {ps : List P2} {p : Nd} (m : Made n ps p) {x : Int} : x ∈ p.works ↔ 0 ≤ x ∧ x < n := by
  rw [← mem_srt, m.works, mem_iota]
theorem Made.len {n : Int} {ps : List P2} {p : Nd} (m : Made n ps p) : (p.works.length : Int) = n := by
  have h := srt_len p.works
  rw [m.works, iota_len] at h
  have : p.works.length ≠ 0 := by have := m.canon.ne; intro e; exact this (List.length_eq_zero_iff.mp e)
  omega
theorem sortD_int (xs : List Int) : sortD (xs.map .int) = (srt xs).map .int := sortD_map (D := PyData.int) (le := leI) (fun a b => dataLe_int a b) xs
theorem wr_ints : Wr (fun xs : List Int => PyData.list (xs.map .int)) 1 := wr_int.list
theorem Made.e_any {n : Int} {ps : List P2} {p : Nd} (m : Made n ps p) : s_is_any_making [.dat (nd p)] = .ret (.bool true) [] := by
  have few := m.few
  have h1 : s_is_node_of 24 [.dat (.int 16), .dat (nd p)] = .ret (.bool true) [] := e_is_node_of 24 p 16 few.hgt m.canon few fun x hx => by
    have := m.mem.mp hx
    have := m.n16
    omega
  have hl := few.few
  refine ret_sat (sat_step (ρ1 := [some (.dat (nd p)), none]) (by simp [h1]) (sat_step (ρ1 := [some (.dat (nd p)), some (.dat (.list (p.works.map .int)))]) (by simp [few.works]) ⟨_, _, ret_ap (ρ1 := [some (.dat (nd p)), some (.dat (.list (p.works.map .int)))]) (c_bin (c_N (n_sortD (xs := p.works.map .int) (by simp) (sortOk_int _ (by omega)))) (c_N (nRg1_at (n := n) ?_ ?_ ?_)) ?_), rfl⟩))
  · simp
    exact m.len
  · have := m.len; omega
  · have := m.n16; omega
  · rw [sortD_int, m.works]
    have := wr_ints.opEq (by decide) (iota n) (iota n)
    rw [this]; simp
theorem Made.e_order {n : Int} {ps : List P2} {p : Nd} (m : Made n ps p) : s_order_by_node [.dat (nd p)] = .ret (ordD n ps) [] := by
  have few := m.few
  have hl := few.few
  have hp : p.pairs.length ≤ 16777216 := by
    have := len_pairs p
    have := sq_le few.canon_works
    omega
  have e : ordD n ps = .tuple [.str "order", .int (p.works.map PyData.int).length, .tuple (sortD (p.pairs.map prD))] := by
    rw [sortD_pr, m.pairs, List.length_map, m.len]; rfl
  rw [e]
  refine ret_sat ⟨_, _, ret_ap (ρ1 := [some (.dat (nd p))]) (c_tup (d_cons (by simp) (d_cons (c_len (l_D (d := .list (p.works.map .int)) (by simp [few.works]) rfl)) (d_cons (c_tuple (n_sortD (l_D (d := .list (p.pairs.map prD)) (by simp [few.pairs]) rfl) (sortOk_pr _ hp))) (by rfl)))) rfl), rfl⟩
theorem fine_ord (n : Int) (ps : List P2) : Fine 3 (ordD n ps) := fine_tuple fun x hx => by
  simp only [List.mem_cons, List.not_mem_nil, or_false] at hx
  rcases hx with rfl | rfl | rfl
  · exact (fine_str (by decide +kernel)).mono (by omega)
  · exact (fine_int n).mono (by omega)
  · exact wr_pr.tuple.fine ps
theorem Made.e_is_making_of {n : Int} {ps : List P2} {p : Nd} (m : Made n ps p) : s_is_making_of [.dat (ordD n ps), .dat (nd p)] = .ret (.bool true) [] := by
  have h := opEq_self ((fine_ord n ps).mono (by decide))
  simp [s_is_making_of, b_is_making_of, bodyOf_ap, m.e_any, m.e_order, h]
theorem Made.e_is_order_making {n : Int} {ps : List P2} {p : Nd} (o : Ord n ps) (m : Made n ps p) : s_is_order_making [.dat (ordD n ps), .dat (nd p)] = .ret (.bool true) [] := by
  simp [s_is_order_making, b_is_order_making, bodyOf_ap, e_want_order o, m.e_is_making_of]
theorem Made.e_order_by_making {n : Int} {ps : List P2} {p : Nd} (m : Made n ps p) : s_order_by_making [.dat (nd p)] = .ret (ordD n ps) [] := by
  simp [s_order_by_making, b_order_by_making, bodyOf_ap, m.e_any, m.e_order]
theorem Made.e_paper {n : Int} {ps : List P2} {p : Nd} (o : Ord n ps) (m : Made n ps p) : s_is_order_paper [.dat (ordD n ps), .dat (.tuple [.str "made", nd p])] = .ret (.bool true) [] := by
  have r2 : s_is_row [.dat (.tuple [.str "made", nd p]), .dat (.int 2)] = .ret (.bool true) [] := e_is_row _ _
  have h : s_is_paper_of [.dat (ordD n ps), .dat (.tuple [.str "made", nd p])] = .ret (.bool true) [] := by
    simp [s_is_paper_of, b_is_paper_of, bodyOf_ap, r2, m.e_is_making_of]
  simp [s_is_order_paper, b_is_order_paper, bodyOf_ap, e_want_order o, h]
end Mo.K70
end
section
set_option autoImplicit false
set_option linter.all false
/-! V6: the law's looks at makings. -/
namespace Mo.K70
open PySem Mo Mo.Or
/-! ### least first -/
def sortN (ps : List Nd) : List Nd := ps.mergeSort fun p q => decide (p.least ≤ q.least)
theorem sortN_perm (ps : List Nd) : (sortN ps).Perm ps := List.mergeSort_perm _ _
theorem sortN_pw (ps : List Nd) : (sortN ps).Pairwise fun p q => p.least ≤ q.least := by
  have := List.pairwise_mergeSort (le := fun p q : Nd => decide (p.least ≤ q.least)) (by intro a b c; simp only [decide_eq_true_eq]; omega) (by intro a b; simp only [Bool.or_eq_true, decide_eq_true_eq]; omega) ps
  exact this.imp fun h => by simpa using h
mutual
def lf : Nd → Nd
  | .work k => .work k
  | .comp b ps => .comp b (if b then lfL ps else sortN (lfL ps))
def lfL : List Nd → List Nd
  | [] => []
  | p :: r => lf p :: lfL r
end
theorem lfL_eq : ∀ ps : List Nd, lfL ps = ps.map lf
  | [] => rfl
  | p :: r => by rw [lfL, lfL_eq r]; rfl
theorem lf_comp (b : Bool) (ps : List Nd) : lf (.comp b ps) = .comp b (if b then ps.map lf else sortN (ps.map lf)) := by rw [lf, lfL_eq]
theorem worksL_perm {ps qs : List Nd} (h : ps.Perm qs) : (worksL ps).Perm (worksL qs) := by
  rw [worksL_eq, worksL_eq]; exact (h.map _).flatten
theorem lfB_perm (b : Bool) (ps : List Nd) : (if b then ps.map lf else sortN (ps.map lf)).Perm (ps.map lf) := by
  cases b
  · exact sortN_perm _
  · exact .refl _
theorem worksL_lf {ps : List Nd} (h : ∀ p ∈ ps, (lf p).works.Perm p.works) : (worksL (ps.map lf)).Perm (worksL ps) := by
  induction ps with
  | nil => exact .refl _
  | cons p r ih =>
    rw [List.map_cons, worksL, worksL]
    exact (h p (.head _)).append (ih fun q hq => h q (.tail _ hq))
theorem lf_works : ∀ p : Nd, (lf p).works.Perm p.works
  | .work k => .refl _
  | .comp b ps => by
    rw [lf_comp]
    show (worksL _).Perm (worksL ps)
    exact (worksL_perm (lfB_perm b ps)).trans (worksL_lf fun p hp => lf_works p)
theorem lf_full {p : Nd} (h : Full p) : Full (lf p) := by
  induction h with
  | work k => exact .work k
  | comp b ps n h ih =>
    rw [lf_comp]
    have pm := lfB_perm b ps
    refine .comp b _ (by rw [pm.length_eq, List.length_map]; exact n) fun q hq => ?_
    obtain ⟨p, hp, rfl⟩ := List.mem_map.mp (pm.subset hq)
    exact ih p hp
theorem lf_few {p : Nd} (h : Few p) : Few (lf p) := ⟨lf_full h.full, by rw [(lf_works p).length_eq]; exact h.few⟩
theorem keysOf_nd {qs : List Nd} (h : ∀ q ∈ qs, Few q) : keysOf s__law_least_work (qs.map nd) = some (qs.map Nd.least) := by
  induction qs with
  | nil => rfl
  | cons q r ih =>
    rw [List.map_cons, keysOf, (h q (.head _)).e_leastL]
    show (keysOf s__law_least_work (r.map nd)).map _ = _
    rw [ih fun p hp => h p (.tail _ hp)]; rfl
theorem sortI_nd (qs : List Nd) : sortI (qs.map nd) (qs.map Nd.least) = (sortN qs).map nd := by
  unfold sortI sortN
  have e : (qs.map nd).zip (qs.map Nd.least) = qs.map fun q => (nd q, q.least) := by
    induction qs with
    | nil => rfl
    | cons q r ih => rw [List.map_cons, List.map_cons, List.zip_cons_cons, ih]; rfl
  rw [e]
  have h := List.map_mergeSort (r := fun p q : Nd => decide (p.least ≤ q.least)) (s := W.dataLe false fun p : PyData × Int => .int p.2) (f := fun q : Nd => (nd q, q.least)) (l := qs) (fun a _ b _ => (dataLe_int a.least b.least).symm)
  rw [← h, List.map_map]; rfl
theorem n_sortKd {l : Ls} {f : Fs} {ρ : En} {xs : List PyData} {ks : List Int} (h : l ρ = .ok xs ρ) (hk : keysOf f xs = some ks) (hl : xs.length ≤ 16777216) : nSortK l f ρ = .ok (sortI xs ks) ρ := by
  unfold nSortK
  rw [h, Out.bind_ok]
  (try dsimp only)
  rw [hk]
  exact if_pos (by unfold maxSeq; exact hl)
theorem e__law_least_first : ∀ (f : Nat) (p : Nd), hgt p < f → Few p → s__law_least_first f [.dat (nd p)] = .ret (nd (lf p)) []
  | 0, _, h, _ => absurd h (Nat.not_lt_zero _)
  | f + 1, .work k, _, _ => by
    show bodyOf (b__law_least_first (s__law_least_first f)) 2 false [.dat (nd (.work k))] = _
    exact ret_sat (sat_ret (ρ1 := [some (.dat (nd (.work k))), none, none]) (d := nd (.work k)) (by simp [b__law_least_first]) rfl)
  | f + 1, .comp b ps, h, few => by
    show bodyOf (b__law_least_first (s__law_least_first f)) 2 false [.dat (nd (.comp b ps))] = _
    have ne := word_ne b
    have hlen : ps.length ≤ 16 := by
      have := (worksL_len fun p hp => (few.part hp).full.ne).1
      have : (worksL ps).length ≤ 16 := few.few
      omega
    have ih : ∀ p ∈ ps, s__law_least_first f [.dat (nd p)] = .ret (nd (lf p)) [] := fun p hp => e__law_least_first f p (by have := hgt_mem hp; simp only [hgt] at h; omega) (few.part hp)
    refine ret_sat (sat_step (ρ1 := [some (.dat (nd (.comp b ps))), none, none]) (by simp [ne]) (sat_step (ρ1 := [some (.dat (nd (.comp b ps))), some (.dat (.list ((ps.map lf).map nd))), none]) ?_ ?_))
    · rw [sSet_ap, rD_ap, cN_ap, nLc_all (D := nd) (E := fun p => nd (lf p)) (ys := ps) (by simp) (by simp) (fun p hp => by simp [ih p hp]) (by omega)]
      simp
    · have e : nd (lf (.comp b ps)) = .tuple [.str (wordS b), .tuple ((if b then ps.map lf else sortN (ps.map lf)).map nd)] := by rw [lf_comp, nd_comp]
      rw [e]
      refine ⟨_, _, ret_ap (ρ1 := [some (.dat (nd (.comp b ps))), some (.dat (.list ((ps.map lf).map nd))), none]) (c_tup (d_cons (by simp) (d_cons (c_tuple (l_D (d := .list ((if b then ps.map lf else sortN (ps.map lf)).map nd)) (c_if (a := b) ?_ ?_ ?_) rfl)) rfl)) rfl), rfl⟩
      · cases b <;> simp [wordS]
      · rintro rfl; simp
      · rintro rfl
        refine c_N ?_
        rw [n_sortKd (xs := (ps.map lf).map nd) (by simp) (keysOf_nd fun q hq => by
          obtain ⟨p, hp, rfl⟩ := List.mem_map.mp hq
          exact lf_few (few.part hp)) (by simp; omega), sortI_nd]
        rfl
theorem lf_id {p : Nd} (c : Canon p) : lf p = p := by
  induction c with
  | work k => rfl
  | comp b ps n h w r ih =>
    have e : ps.map lf = ps := by
      have : ps.map lf = ps.map id := List.map_congr_left fun p hp => ih p hp
      rw [this, List.map_id]
    rw [lf_comp, e]
    cases b with
    | true => rfl
    | false =>
      have := r rfl
      congr 1
      exact List.mergeSort_of_pairwise (this.imp fun h => by simp; omega)
/-! ### plain -/
theorem e__law_is_plain : ∀ (f : Nat) (p : Nd), hgt p < f → Canon p → Few p → s__law_is_plain f [.dat (nd p)] = .ret (.bool true) []
  | 0, _, h, _, _ => absurd h (Nat.not_lt_zero _)
  | f + 1, .work k, _, _, _ => by
    show bodyOf (b__law_is_plain (s__law_is_plain f)) 1 false [.dat (nd (.work k))] = _
    exact ret_sat (sat_ret (ρ1 := [some (.dat (nd (.work k))), none]) (d := .bool true) (by simp [b__law_is_plain]) rfl)
  | f + 1, .comp b ps, h, .comp _ _ n hc hw hr, few => by
    show bodyOf (b__law_is_plain (s__law_is_plain f)) 1 false [.dat (nd (.comp b ps))] = _
    have ne := word_ne b
    have hlen : ps.length ≤ 16 := by
      have := (worksL_len fun p hp => (few.part hp).full.ne).1
      have : (worksL ps).length ≤ 16 := few.few
      omega
    have ih : ∀ p ∈ ps, s__law_is_plain f [.dat (nd p)] = .ret (.bool true) [] := fun p hp => e__law_is_plain f p (by have := hgt_mem hp; simp only [hgt] at h; omega) (hc p hp) (few.part hp)
    refine ret_sat (sat_step (ρ1 := [some (.dat (nd (.comp b ps))), none]) (by simp [ne]) ⟨_, _, ret_ap (c_and (ρ := [some (.dat (nd (.comp b ps))), none]) (a := true) (b := true) ?_ fun _ => c_bin (c_N (nLc_if (D := nd) (p := fun _ => false) (E := nd) (ys := ps) (by simp) (by simp) (fun p hp => ?_) (by omega))) (by simp; rfl) ?_), rfl⟩)
    · simp
      omega
    · have w1 := hw p hp
      cases p with
      | work k => simp [ih _ hp, Ne.symm ne]
      | comp b' qs =>
        have hb : wordS b' ≠ wordS b := by
          have : b' ≠ b := by simpa [Nd.isC] using w1
          cases b <;> cases b' <;> first | exact absurd rfl this | decide
        simp [ih _ hp, hb]
    · have e0 : (ps.filter fun _ => false) = [] := List.filter_eq_nil_iff.mpr fun _ _ => Bool.false_ne_true
      rw [e0]; rfl
theorem Made.e__law_is_making {n : Int} {ps : List P2} {p : Nd} (m : Made n ps p) : s__law_is_making [.dat (ordD n ps), .dat (nd p)] = .ret (.bool true) [] := by
  have few := m.few
  have hl := few.few
  have x1 : opIx (ordD n ps) (.int 1) = some (.int n) := rfl
  have x2 : opIx (ordD n ps) (.int 2) = some (.tuple (ps.map prD)) := rfl
  have hp : p.pairs.length ≤ 16777216 := by
    have := len_pairs p
    have := sq_le few.canon_works
    omega
  have l1 := m.len
  have l2 := m.n16
  refine ret_sat ⟨_, _, ret_ap (c_and (ρ := [some (.dat (ordD n ps)), some (.dat (nd p))]) (a := true) (b := true && (true && true)) (c_bin (c_tuple (n_sortD (l_D (d := .list (p.pairs.map prD)) (by simp [sp_eq, few.pairs]) rfl) (sortOk_pr _ hp))) (y := .tuple (ps.map prD)) (by simp [x2]) ?_) fun _ => c_and (c_bin (c_N (n_sortD (l_D (d := .list (p.works.map .int)) (by simp [sw_eq, few.works]) rfl) (sortOk_int _ (by omega)))) (c_N (nRg1_at (n := n) (by simp [x1]) (by omega) (by omega))) ?_) fun _ => c_and ?_ fun _ => ?_), rfl⟩
  · rw [sortD_pr, m.pairs]
    exact opEq_self ((wr_pr.tuple.fine ps).mono (by decide))
  · rw [sortD_int, m.works]
    exact opEq_self ((wr_ints.fine (iota n)).mono (by decide))
  · have e := e__law_least_first 24 p few.hgt few
    rw [lf_id m.canon] at e
    have h := opEq_self ((fine_nd p).mono (show 2 * hgt p + 1 ≤ 64 by have := few.hgt; omega))
    simp [e, h]
  · have e := e__law_is_plain 24 p few.hgt m.canon few
    simp [e]
end Mo.K70
end
section
set_option autoImplicit false
set_option linter.all false
/-! V7: makings told: lots, node_of, evaluated. -/
namespace Mo.K70
open PySem Mo Mo.Or
abbrev lstD (l : List Int) : PyData := .list (l.map .int)
theorem e_are_paired (n : Int) (ps : List P2) (a b : Int) : s_are_paired [.dat (ordD n ps), .dat (.int a), .dat (.int b)] = .ret (.bool (paired (rl ps) a b)) [] := by
  simp [s_are_paired, b_are_paired, bodyOf_ap, e_are_free_of, paired]
/-- the def of this name tells t -/
def TellsBy (n : Int) (ps : List P2) (y : Str) (t : Rl) : Prop := ∃ f, fnT y = some f ∧ ∀ a b : Int, f [.dat (ordD n ps), .dat (.int a), .dat (.int b)] = .ret (.bool (t a b)) []
theorem by_free (n : Int) (ps : List P2) : TellsBy n ps "are_free_of" (free (rl ps)) := ⟨s_are_free_of, by unfold fnT; rw [if_neg (by decide), if_pos rfl], fun a b => e_are_free_of n ps a b⟩
theorem by_paired (n : Int) (ps : List P2) : TellsBy n ps "are_paired" (paired (rl ps)) := ⟨s_are_paired, by unfold fnT; rw [if_pos rfl], fun a b => e_are_paired n ps a b⟩
@[simp] theorem cIxO_ap (i : Nat) (g : Ex) (ρ : En) : cIxO i g ρ = (lV i ρ).bind fun _ ρ => (g ρ).bind fun k ρ => (lV i ρ).bind fun xs ρ => match k with
  | .int z => lift (itemAt xs z) ρ
  | _ => .stuck := rfl
theorem c_callV {n i : Nat} {T : Str → Option Fs} {as : As} {ρ : En} {x : Str} {f : Fs} {svs : List SV} {d : PyData} {io : List PyData} (h : ρ[i]? = some (some (.fnv x))) (hT : T x = some f) (ha : as ρ = .ok svs ρ) (hn : svs.length = n) (hf : f svs = .ret d io) : cCallV n i T as ρ = .ok d ρ := by
  unfold cCallV
  rw [h]
  (try dsimp only)
  rw [hT]
  (try dsimp only)
  rw [cCall_ap, ha, Out.bind_ok, if_pos hn, hf]
@[simp] theorem sAugI_ap (i : Nat) (neg : Bool) (f : Ex) (ρ : En) : sAugI i neg f ρ = match ρ[i]? with
  | some (some (.dat a)) => (f ρ).bind fun b ρ => (lift ((if neg then opSub else fun a b => match a, b with | .int i, .int j => some (.int (i + j)) | _, _ => none) a b) ρ).bind fun c ρ => .ok .nx (ρ.set i (some (.dat c)))
  | _ => .stuck := rfl
theorem itemAt_n {xs : List PyData} {i : Nat} {d : PyData} (h : xs[i]? = some d) : itemAt xs (i : Int) = some d := by
  have hn := (List.getElem?_eq_some_iff.mp h).1
  unfold itemAt ixAt
  rw [if_pos (by omega), if_pos (by omega)]
  simpa using h
theorem inL_int (xs : List Int) (a : Int) : inL (.int a) (xs.map .int) = some (decide (a ∈ xs)) := wr_int.inL (by decide) a xs
theorem fine_lstD (l : List Int) : Fine 1 (lstD l) := wr_ints.fine l
theorem e_lots_of {n : Int} {ps : List P2} {y : Str} {t : Rl} (ht : TellsBy n ps y t) {W : List Int} (hW : W.Pairwise fun a b => a < b) (hl : W.length ≤ 1000) : s_lots_of [.dat (ordD n ps), .dat (lstD W), .fnv y] = .ret (.list ((lots t W.length W).map lstD)) [] := by
  obtain ⟨f, hf, ft⟩ := ht
  refine ret_sat (sat_step (ρ1 := [some (.dat (ordD n ps)), some (.dat (lstD W)), some (.fnv y), some (.dat (lstD W)), some (.own []), none, none, none, none]) (by simp) (sat_seq ?_))
  refine sat_while (fun m ρ => ∃ (left : List Int) (found : List (List Int)) (k : Nat) (j5 j6 j7 j8 : Option SV), m = left.length ∧ Jk j7 ∧ Jk j8 ∧ left.Pairwise (fun a b => a < b) ∧ left.length ≤ k ∧ left.length + found.length ≤ W.length ∧ found ++ lots t k left = lots t W.length W ∧
    ρ = [some (.dat (ordD n ps)), some (.dat (lstD W)), some (.fnv y), some (.dat (lstD left)), some (.own (found.map lstD)), j5, j6, j7, j8]) W.length (by omega) ⟨W, [], W.length, none, none, none, none, rfl, jk_none, jk_none, hW, Nat.le_refl _, by simp, rfl, rfl⟩ ?_
  rintro m ρ ⟨left, found, k, j5, j6, j7, j8, rfl, k7, k8, hs, hk, hlf, hL, rfl⟩
  refine ⟨!left.isEmpty, _, t_D (c_bin (x := lstD left) (by simp) (y := .list []) (by simp) ?_), fun hc => ?_, fun hc => ?_⟩
  · rw [opNe_nil (fine_lstD left)]
    cases left <;> rfl
  · have : left = [] := by cases left with
      | nil => rfl
      | cons a r => cases hc
    subst this
    have e : found = lots t W.length W := by
      rw [← hL]
      cases k <;> simp [lots]
    exact ⟨rfl, _, _, ret_fz rfl, by rw [← e]⟩
  · match left, hc with
    | x :: xs, _ =>
    have ln : (x :: xs).Nodup := hs.imp fun {a b} h => by omega
    match k, hk with
    | k + 1, hk =>
    have hll : (x :: xs).length ≤ 1000 := by omega
    refine sat_step (ρ1 := [some (.dat (ordD n ps)), some (.dat (lstD W)), some (.fnv y), some (.dat (lstD (x :: xs))), some (.own (found.map lstD)), some (.own ([x].map .int)), some (.dat (.int 0)), j7, j8]) (by simp [show opIx (lstD (x :: xs)) (.int 0) = some (.int x) from opIx_l0 (.int x) (xs.map .int)]) (sat_seq ?_)
    -- growing
    have gout : ∃ out, grow t (x :: xs) (xs.length + 2) [x] 0 = out := ⟨_, rfl⟩
    obtain ⟨out, hout⟩ := gout
    refine sat_while (fun m ρ => ∃ (got : List Int) (turn : Nat) (c : Nat) (j7 : Option SV), m = (x :: xs).length - turn ∧ Jk j7 ∧ Grown t (x :: xs) x got turn ∧ (x :: xs).length - turn < c ∧ grow t (x :: xs) c got turn = out ∧
      ρ = [some (.dat (ordD n ps)), some (.dat (lstD W)), some (.fnv y), some (.dat (lstD (x :: xs))), some (.own (found.map lstD)), some (.own (got.map .int)), some (.dat (.int (turn : Int))), j7, j8]) ((x :: xs).length - 0) (by omega) ⟨[x], 0, xs.length + 2, j7, rfl, k7, Grown.start (.head _), by simp, hout, rfl⟩ ?_
    rintro m ρ ⟨got, turn, c, j7, rfl, k7, g, hc, hgr, rfl⟩
    have gl := nodup_len g.nd g.sub
    refine ⟨decide ((turn : Int) < (got.length : Int)), _, t_D (by simp), fun hb => ?_, fun hb => ?_⟩
    · -- the lot is done
      have ht : turn = got.length := by
        have := g.le
        have := of_decide_eq_false hb
        omega
      have e : got = out := by
        match c, hc with
        | c + 1, _ =>
          rw [← hgr, grow, ht]
          simp
      subst e
      refine ⟨rfl, ?_⟩
      have glen : got.length ≤ 1000 := by omega
      have so : sortOk (got.map .int) = true := sortOk_int _ (by omega)
      have e1 : lots t (k + 1) (x :: xs) = srt got :: lots t k ((x :: xs).filter fun w => !got.contains w) := by
        rw [lots, hout]
      refine sat_step (ρ1 := [some (.dat (ordD n ps)), some (.dat (lstD W)), some (.fnv y), some (.dat (lstD (x :: xs))), some (.own ((found ++ [srt got]).map lstD)), some (.own (got.map .int)), some (.dat (.int (turn : Int))), j7, j8]) ?_ ?_
      · simp only [sApp_ap, lV_ap, cN_ap, nSorted_ap]
        simp only [List.getElem?_cons_succ, List.getElem?_cons_zero, Out.bind_ok, so, if_true]
        rw [if_pos (by rw [List.length_map]; unfold maxSeq; omega), sortD_int]
        simp
      · refine ⟨_, _, set_D (c_N (nLc_if (D := PyData.int) (p := fun w => !got.contains w) (E := PyData.int) (ys := x :: xs) (by simp) (by simp [k8]) (fun w hw => ?_) (by omega))), rfl, _, ?_, (x :: xs).filter fun w => !got.contains w, found ++ [srt got], k, _, _, _, _, rfl, k7, k8, hs.filter _, ?_, ?_, ?_, rfl⟩
        · by_cases hm : w ∈ got <;> simp [inL_int, hm]
        · have : ((x :: xs).filter fun w => !got.contains w).length < (x :: xs).length := by
            rw [List.filter_cons_of_neg (by simp [g.has])]
            have := List.length_filter_le (fun w => !got.contains w) xs
            simp only [List.length_cons]; omega
          exact this
        · have : ((x :: xs).filter fun w => !got.contains w).length ≤ xs.length := by
            rw [List.filter_cons_of_neg (by simp [g.has])]
            exact List.length_filter_le _ xs
          simp only [List.length_cons] at hk; omega
        · have : ((x :: xs).filter fun w => !got.contains w).length ≤ xs.length := by
            rw [List.filter_cons_of_neg (by simp [g.has])]
            exact List.length_filter_le _ xs
          simp only [List.length_cons, List.length_append, List.length_nil] at hlf ⊢; omega
        · rw [← hL, e1]; simp
    · -- one turn
      have ht : turn < got.length := by
        have := of_decide_eq_true hb
        omega
      obtain ⟨z, hz⟩ : ∃ z, got[turn]? = some z := ⟨got[turn], List.getElem?_eq_getElem ht⟩
      have hzm : (got.map PyData.int)[turn]? = some (.int z) := by rw [List.getElem?_map, hz]; rfl
      have hix := itemAt_n hzm
      match c, hc with
      | c + 1, hc =>
      have hgr' : grow t (x :: xs) c (got ++ more t (x :: xs) got z) (turn + 1) = out := by
        rw [← hgr, grow, hz]
      have g' := g.step ln hz
      have gl' := nodup_len g'.nd g'.sub
      rw [List.length_append] at gl'
      refine sat_step (ρ1 := [some (.dat (ordD n ps)), some (.dat (lstD W)), some (.fnv y), some (.dat (lstD (x :: xs))), some (.own (found.map lstD)), some (.own ((got ++ more t (x :: xs) got z).map .int)), some (.dat (.int (turn : Int))), j7, j8]) ?_ ?_
      · simp only [sExt_ap, lV_ap, cN_ap]
        simp only [List.getElem?_cons_succ, List.getElem?_cons_zero, Out.bind_ok]
        rw [nLc_if (D := PyData.int) (p := fun late => !got.contains late && t z late) (E := PyData.int) (ys := x :: xs) (by simp) (by simp [k7]) (fun w hw => ?_) (by omega)]
        · simp only [Out.bind_ok, List.getElem?_cons_succ, List.getElem?_cons_zero]
          rw [if_pos (by rw [List.length_map, List.length_map]; unfold maxSeq; unfold more at gl'; omega)]
          simp [more]
        · have hcall : cCallV 3 2 fnT (aD (cV 0) (aD (cIxO 5 (cV 6)) (aD (cV 7) (aNil)))) [some (.dat (ordD n ps)), some (.dat (lstD W)), some (.fnv y), some (.dat (lstD (x :: xs))), some (.own (found.map lstD)), some (.own (got.map .int)), some (.dat (.int (turn : Int))), some (.dat (.int w)), j8] = .ok (.bool (t z w)) [some (.dat (ordD n ps)), some (.dat (lstD W)), some (.fnv y), some (.dat (lstD (x :: xs))), some (.own (found.map lstD)), some (.own (got.map .int)), some (.dat (.int (turn : Int))), some (.dat (.int w)), j8] :=
            c_callV (x := y) rfl hf (a_D (by simp) (a_D (by simp [hix]) (a_D (by simp) rfl))) rfl (ft z w)
          by_cases hm : w ∈ got
          · simp [inL_int, hm]
          · cases htz : t z w <;> simp [inL_int, hm, hcall, htz]
      · refine ⟨_, _, by simp; rfl, rfl, (x :: xs).length - (turn + 1), by omega, got ++ more t (x :: xs) got z, turn + 1, c, j7, rfl, k7, g', by omega, hgr', ?_⟩
        simp

/-! ### by_size_behind -/
def kyD (p : Int × List Int) : PyData := .tuple [.int p.1, lstD p.2]
theorem ky_le (p q : Int × List Int) : W.dataLe false id (kyD p) (kyD q) = !(W.DatumOrd.lt q p) := by
  rw [dataLe_not]
  exact congrArg (!·) (W.DatumOrd.lt_eq q p)
theorem ky_fst {p q : Int × List Int} (h : (!(W.DatumOrd.lt q p)) = true) : p.1 ≤ q.1 := by
  have h' : W.DatumOrd.lt q p = false := by simpa using h
  have e : W.DatumOrd.lt q p = if q.1 = p.1 then W.DatumOrd.lt q.2 p.2 else decide (q.1 < p.1) := rfl
  rw [e] at h'
  split at h'
  · omega
  · have := of_decide_eq_false h'
    omega
theorem dataLe_total : W.TotalLe (W.dataLe false (id : PyData → PyData)) := W.sortLe_total _ _ _
theorem sortOk_ky (ks : List (Int × List Int)) (hl : ks.length ≤ 16777216) : sortOk (ks.map kyD) = true :=
  sortOk_of (D := kyD) (fun a b => W.DatumOrd.alike a b) (.inl fun a => ⟨_, _, rfl⟩) (fun a => Nat.le_trans (show (kyD a).depth ≤ 2 from W.Datum.depth_le a) (by decide)) ks hl
def keyed (r : Rl) (L : List (List Int)) : List (Int × List Int) := L.map fun l => ((cnt r L l : Int), l)
theorem keyed_sort {r : Rl} {L : List (List Int)} (inj : ∀ l ∈ L, ∀ m ∈ L, cnt r L l = cnt r L m → l = m) : ((keyed r L).mergeSort fun p q => !(W.DatumOrd.lt q p)).map (·.2) = bySz r L := by
  have pm := List.mergeSort_perm (keyed r L) fun p q => !(W.DatumOrd.lt q p)
  have tot := dataLe_total
  have pw : ((keyed r L).mergeSort fun p q => !(W.DatumOrd.lt q p)).Pairwise fun p q => (!(W.DatumOrd.lt q p)) = true :=
    List.pairwise_mergeSort (le := fun p q : Int × List Int => !(W.DatumOrd.lt q p)) (fun a b c h1 h2 => by
      rw [← ky_le] at h1 h2 ⊢
      exact tot.trans _ _ _ h1 h2) (fun a b => by
      rw [← ky_le, ← ky_le]
      have := tot.total (kyD a) (kyD b)
      simpa using this) _
  have hk : ∀ p ∈ (keyed r L).mergeSort fun p q => !(W.DatumOrd.lt q p), p.1 = (cnt r L p.2 : Int) ∧ p.2 ∈ L := fun p hp => by
    obtain ⟨l, hl, rfl⟩ := List.mem_map.mp (pm.subset hp)
    exact ⟨rfl, hl⟩
  have pw2 : (((keyed r L).mergeSort fun p q => !(W.DatumOrd.lt q p)).map (·.2)).Pairwise fun l m => cnt r L l ≤ cnt r L m := by
    refine List.pairwise_map.mpr (pw.imp_of_mem fun {p q} hp hq h => ?_)
    have := ky_fst h
    rw [(hk p hp).1, (hk q hq).1] at this
    omega
  have pm2 : (((keyed r L).mergeSort fun p q => !(W.DatumOrd.lt q p)).map (·.2)).Perm L := by
    refine (pm.map _).trans ?_
    unfold keyed
    rw [List.map_map]
    have : (L.map ((fun x => x.2) ∘ fun l => ((cnt r L l : Int), l))) = L := by
      have : L.map ((fun x : Int × List Int => x.2) ∘ fun l => ((cnt r L l : Int), l)) = L.map id := List.map_congr_left fun l _ => rfl
      rw [this, List.map_id]
    rw [this]
  exact List.Perm.eq_of_pairwise (le := fun l m => cnt r L l ≤ cnt r L m) (fun a b ha hb h1 h2 => inj a (pm2.subset ha) b ((bySz_perm r L).subset hb) (by omega)) pw2 (bySz_pw r L) (pm2.trans (bySz_perm r L).symm)
theorem hd_ix {l : List Int} (h : l ≠ []) : opIx (lstD l) (.int 0) = some (.int (l.headD 0)) := by
  cases l with
  | nil => exact absurd rfl h
  | cons a r => exact opIx_l0 (.int a) (r.map .int)
theorem e_by_size {n : Int} {ps : List P2} {L : List (List Int)} (hne : ∀ l ∈ L, l ≠ []) (hl : L.length ≤ 1000) (inj : ∀ l ∈ L, ∀ m ∈ L, cnt (rl ps) L l = cnt (rl ps) L m → l = m) : s_by_size_behind [.dat (ordD n ps), .dat (.list (L.map lstD))] = .ret (.list ((bySz (rl ps) L).map lstD)) [] := by
  refine ret_sat (sat_step (ρ1 := [some (.dat (ordD n ps)), some (.dat (.list (L.map lstD))), some (.dat (.list ((keyed (rl ps) L).map kyD))), none, none, none]) ?_ ?_)
  · have key : ∀ l ∈ L, nLc (lD (cV 1)) (gN 3) (tD (cCall 3 s_is_ahead_of (aD (cV 0) (aD (cBin opIx (cV 3) (cK (.int 0))) (aD (cBin opIx (cV 4) (cK (.int 0))) (aNil)))))) (cV 3) [3] [some (.dat (ordD n ps)), some (.dat (.list (L.map lstD))), none, none, some (.dat (lstD l)), none] = .ok ((L.filter fun o => rl ps (o.headD 0) (l.headD 0)).map lstD) [some (.dat (ordD n ps)), some (.dat (.list (L.map lstD))), none, none, some (.dat (lstD l)), none] := fun l hl' =>
      nLc_if (D := lstD) (p := fun o => rl ps (o.headD 0) (l.headD 0)) (E := lstD) (ys := L) (by simp) (by simp) (fun o ho => by
        have e1 := hd_ix (hne o ho)
        have e2 := hd_ix (hne l hl')
        cases h : rl ps (o.headD 0) (l.headD 0) <;> simp [e1, e2, e_is_ahead_of, h, -List.headD_eq_head?_getD]) (by omega)
    rw [sSet_ap, rD_ap, cN_ap, nLc_all (D := lstD) (E := fun l => kyD ((cnt (rl ps) L l : Int), l)) (ys := L) (by simp) (by simp) (fun l hl' => by
      have := key l hl'
      simp [this, kyD, cnt]) (by omega)]
    simp [keyed]
  · have len1 : (keyed (rl ps) L).length ≤ 1000 := by unfold keyed; rw [List.length_map]; exact hl
    have len2 := (List.mergeSort_perm (keyed (rl ps) L) fun p q => !(W.DatumOrd.lt q p)).length_eq
    refine ⟨_, _, ret_ap (c_N (nLc_all (D := kyD) (E := fun p => lstD p.2) (ys := (keyed (rl ps) L).mergeSort fun p q => !(W.DatumOrd.lt q p)) ?_ (by simp) (fun p hp => by simp [kyD]) (by omega))), ?_⟩
    · rw [n_sortD (xs := (keyed (rl ps) L).map kyD) (by simp) (sortOk_ky _ (by omega)), sortD_map (D := kyD) (le := fun p q => !(W.DatumOrd.lt q p)) ky_le]
    · rw [← keyed_sort inj, List.map_map]; rfl

/-! ### node_of -/
def optD : Option Nd → PyData
  | none => .none
  | some p => nd p
theorem allS_some {α : Type} : ∀ {xs : List (Option α)} {ys : List α}, allS xs = some ys → xs = ys.map some
  | [], _, h => by cases h; rfl
  | none :: _, _, h => by cases h
  | some a :: r, ys, h => by
    rw [allS, Option.map_eq_some_iff] at h
    obtain ⟨zs, e, rfl⟩ := h
    rw [allS_some e]; rfl
theorem allS_no {α : Type} : ∀ {xs : List (Option α)}, allS xs = none → none ∈ xs
  | [], h => by cases h
  | none :: _, _ => .head _
  | some a :: r, h => by
    rw [allS, Option.map_eq_none_iff] at h
    exact .tail _ (allS_no h)
theorem isNone_opt (o : Option Nd) : isNone (optD o) = o.isNone := by
  cases o with
  | none => rfl
  | some p => cases p <;> rfl
/-- the parts, told one by one, put together -/
theorem e_parts {b : Bool} {os : List (Option Nd)} (hl : os.length ≤ 1000) {ρ : En} (h3 : ρ[3]? = some (some (.dat (.str (wordS b))))) (h4 : ρ[4]? = some (some (.dat (.list (os.map optD))))) (h6 : ρ[6]? = some none) :
    cIf (tD (cAny (nLc (lD (cV 4)) (gN 6) (tYes) (cUn (opIsN false) (cV 6)) [6]))) (cK .none) (cTup (dCons (cV 3) (dCons (cTuple (lD (cV 4))) (dNil)))) ρ = .ok (optD ((allS os).map (Nd.comp b))) ρ := by
  have hn : nLc (lD (cV 4)) (gN 6) (tYes) (cUn (opIsN false) (cV 6)) [6] ρ = .ok (os.map fun o => .bool o.isNone) ρ := by
    refine nLc_all (D := optD) (E := fun o => .bool o.isNone) (ys := os) (l_D (c_V h4) rfl) (by simp [h6, JkO]) (fun o _ => ?_) (by omega)
    have l6 := (List.getElem?_eq_some_iff.mp h6).1
    simp [List.getElem?_set, l6, isNone_opt]
  refine c_if (a := os.any fun o => o.isNone) (t_D ?_) (fun h => ?_) (fun h => ?_)
  · rw [cAny_ap, hn, Out.bind_ok, boolsOf_map (fun o : Option Nd => o.isNone)]
    simp [List.any_map]
  · have : allS os = none := by
      rw [List.any_eq_true] at h
      obtain ⟨o, ho, e⟩ := h
      cases o with
      | some p => cases e
      | none =>
        cases k : allS os with
        | none => rfl
        | some ys =>
          rw [allS_some k] at ho
          obtain ⟨y, _, e⟩ := List.mem_map.mp ho
          cases e
    rw [this]; rfl
  · cases k : allS os with
    | none =>
      have hm := allS_no k
      rw [List.any_eq_false] at h
      exact absurd rfl (h none hm)
    | some qs =>
      have e := allS_some k
      have e2 : os.map optD = qs.map nd := by rw [e, List.map_map]; rfl
      have l2 : qs.length ≤ 1000 := by rw [e, List.length_map] at hl; exact hl
      rw [e2] at h4
      show _ = Out.ok (nd (.comp b qs)) ρ
      rw [nd_comp]
      exact c_tup (d_cons (c_V h3) (d_cons (c_tuple (l_D (c_V h4) rfl)) rfl)) rfl
theorem cnt_inj {r : Rl} (h : Po r) {W : List Int} {L : List (List Int)} (hW : W.Nodup) (k : Lots (co (paired r)) W L) : ∀ l ∈ L, ∀ m ∈ L, cnt r L l = cnt r L m → l = m := by
  have bf := bySz_before h hW k
  have pm := bySz_perm r L
  have pw := cnt_pw h.irr (fun m hm => k.ne m (pm.subset hm)) bf
  intro l hl m hm e
  refine Classical.byContradiction fun ne => ?_
  have := pw_mem (R := fun l m => cnt r (bySz r L) l ≠ cnt r (bySz r L) m) (fun x y h e => h e.symm) (pw.imp fun {a b} h => by omega) (pm.symm.subset hl) (pm.symm.subset hm) ne
  rw [cnt_perm pm, cnt_perm pm] at this
  exact this e
theorem Lots.short {t : Rl} {W : List Int} {L : List (List Int)} (k : Lots t W L) : L.length ≤ W.length ∧ ∀ l ∈ L, l.length ≤ W.length := by
  have h := k.perm.length_eq
  have ne := k.ne
  clear k
  rw [← h]
  clear h
  induction L with
  | nil => exact ⟨Nat.zero_le _, fun _ h => by cases h⟩
  | cons l L ih =>
    obtain ⟨i1, i2⟩ := ih fun m hm => ne m (.tail _ hm)
    have := List.length_pos_iff.mpr (ne l (.head _))
    rw [List.flatten_cons, List.length_append]
    refine ⟨by simp only [List.length_cons]; omega, fun m hm => ?_⟩
    rcases List.mem_cons.mp hm with rfl | hm
    · omega
    · have := i2 m hm; omega
theorem Lots.lt {t : Rl} {W : List Int} {L : List (List Int)} (k : Lots t W L) (hL : 2 ≤ L.length) {l : List Int} (hl : l ∈ L) : l.length < W.length := by
  rw [← k.perm.length_eq]
  obtain ⟨s, t', e⟩ := List.append_of_mem hl
  have ne := k.ne
  clear k
  subst e
  simp only [List.flatten_append, List.flatten_cons, List.length_append]
  have : 1 ≤ s.flatten.length + t'.flatten.length := by
    cases s with
    | cons a s =>
      have := List.length_pos_iff.mpr (ne a (.head _))
      simp only [List.flatten_cons, List.length_append]; omega
    | nil => cases t' with
      | nil => simp at hL
      | cons a t' =>
        have := List.length_pos_iff.mpr (ne a (.tail _ (.head _)))
        simp only [List.flatten_cons, List.length_append]; omega
  omega
theorem Lots.two {t : Rl} {W : List Int} {L : List (List Int)} (k : Lots t W L) (ne : W ≠ []) (h : L.length ≠ 1) : 2 ≤ L.length := by
  match L, k, h with
  | [], k, _ =>
    have := k.perm.length_eq
    simp only [List.flatten_nil, List.length_nil] at this
    exact absurd (List.length_eq_zero_iff.mp this.symm) ne
  | _ :: _ :: _, _, _ => simp
theorem e_node_of {n : Int} {ps : List P2} (P : Po (rl ps)) : ∀ (f : Nat) (W : List Int), W.Pairwise (fun a b => a < b) → W ≠ [] → W.length ≤ 1000 → W.length ≤ f → s_node_of f [.dat (ordD n ps), .dat (lstD W)] = .ret (optD (nodeOf (rl ps) f W)) []
  | 0, W, _, ne, _, h => absurd (List.length_eq_zero_iff.mp (by omega)) ne
  | f + 1, W, hW, ne, hl, hf => by
    have T := tie_paired P.irr
    have ndW : W.Nodup := hW.imp fun {a b} h => by omega
    show bodyOf (b_node_of (s_node_of f)) 5 false [.dat (ordD n ps), .dat (lstD W)] = _
    rw [nodeOf]
    by_cases h1 : W.length = 1
    · rw [if_pos h1]
      refine ret_sat (sat_ret (ρ1 := [some (.dat (ordD n ps)), some (.dat (lstD W)), none, none, none, none, none]) (d := nd (.work (W.headD 0))) ?_ rfl)
      have : ((W.length : Int) = 1) := by omega
      simp [this, hd_ix ne, nd_work, -List.headD_eq_head?_getD]
    rw [if_neg h1]
    have h1' : ¬ ((W.length : Int) = 1) := by omega
    refine ret_sat (sat_step (ρ1 := [some (.dat (ordD n ps)), some (.dat (lstD W)), none, none, none, none, none]) (by simp [h1']) ?_)
    obtain ⟨k1, _⟩ := lots_spec T W.length W (Nat.le_refl _) hW
    obtain ⟨c1, _⟩ := lots_spec T.co W.length W (Nat.le_refl _) hW
    rw [lots_congr free_co]
    have eL := e_lots_of (by_paired n ps) hW hl
    have eM := e_lots_of (by_free n ps) hW hl
    rw [lots_congr free_co] at eM
    generalize lots (paired (rl ps)) W.length W = L at k1 eL ⊢
    generalize lots (co (paired (rl ps))) W.length W = M at c1 eM ⊢
    have lL := (Lots.short k1).1
    have lM := (Lots.short c1).1
    -- the parts
    have parts : ∀ (b : Bool) (t : Rl) (X : List (List Int)), Lots t W X → X.length ≠ 1 → Sat ((sSeq (sSet 4 (rD (cN (nLc (lD (cV 2)) (gN 5) (tYes) (cCall 2 (s_node_of f) (aD (cV 0) (aD (cV 5) (aNil)))) (([("lot", 5)] : List (Str × Nat)).map (·.2)))))) (sRet (cIf (tD (cAny (nLc (lD (cV 4)) (gN 6) (tYes) (cUn (opIsN false) (cV 6)) (([("part", 6)] : List (Str × Nat)).map (·.2))))) (cK .none) (cTup (dCons (cV 3) (dCons (cTuple (lD (cV 4))) (dNil))))))) [some (.dat (ordD n ps)), some (.dat (lstD W)), some (.dat (.list (X.map lstD))), some (.dat (.str (wordS b))), none, none, none]) fun fl _ => fl = .ret (optD ((allS (X.map (nodeOf (rl ps) f))).map (Nd.comp b))) := by
      intro b t X kX hX
      have lX := (Lots.short kX).1
      have X2 := Lots.two kX ne hX
      refine sat_step (ρ1 := [some (.dat (ordD n ps)), some (.dat (lstD W)), some (.dat (.list (X.map lstD))), some (.dat (.str (wordS b))), some (.dat (.list ((X.map (nodeOf (rl ps) f)).map optD))), none, none]) ?_ ?_
      · rw [sSet_ap, rD_ap, cN_ap, nLc_all (D := lstD) (E := fun l => optD (nodeOf (rl ps) f l)) (ys := X) (by simp) (by simp) (fun l hl' => by
          have h2 := Lots.lt kX X2 hl'
          simp [e_node_of P f l (kX.srtd l hl') (kX.ne l hl') (by omega) (by omega)]) (by omega)]
        simp
      · exact ⟨_, _, ret_ap (e_parts (b := b) (os := X.map (nodeOf (rl ps) f)) (by rw [List.length_map]; omega) rfl rfl rfl), rfl⟩
    refine sat_step (ρ1 := [some (.dat (ordD n ps)), some (.dat (lstD W)), some (.dat (.list (L.map lstD))), some (.dat (.str "beside")), none, none, none]) (by simp [eL]) ?_
    by_cases h2 : L.length = 1
    · rw [if_pos h2]
      have h2' : ((L.length : Int) = 1) := by omega
      have eB := e_by_size (n := n) (ps := ps) (L := M) c1.ne (by omega) (cnt_inj P ndW c1)
      have pm := bySz_perm (rl ps) M
      have T2 := T.co
      have kB : Lots (co (paired (rl ps))) W (bySz (rl ps) M) := ⟨pm.flatten.trans c1.perm, fun l hl => c1.srtd l (pm.subset hl), fun l hl => c1.ne l (pm.subset hl), pm.symm.pairwise c1.apart (fun {x y} hh a ha b hb => T2.symf (hh b hb a ha)), fun l hl => c1.hang l (pm.subset hl)⟩
      generalize bySz (rl ps) M = B at eB kB ⊢
      refine sat_step (ρ1 := [some (.dat (ordD n ps)), some (.dat (lstD W)), some (.dat (.list (B.map lstD))), some (.dat (.str (wordS true))), none, none, none]) (by simp [h2', eM, eB, wordS]) ?_
      by_cases h3 : B.length = 1
      · rw [if_pos h3]
        have h3' : ((B.length : Int) = 1) := by omega
        exact sat_ret (ρ1 := [some (.dat (ordD n ps)), some (.dat (lstD W)), some (.dat (.list (B.map lstD))), some (.dat (.str (wordS true))), none, none, none]) (d := .none) (by simp [h3']) rfl
      · rw [if_neg h3]
        have h3' : ¬ ((B.length : Int) = 1) := by omega
        exact sat_step (ρ1 := [some (.dat (ordD n ps)), some (.dat (lstD W)), some (.dat (.list (B.map lstD))), some (.dat (.str (wordS true))), none, none, none]) (by simp [h3']) (parts true _ B kB h3)
    · rw [if_neg h2]
      have h2' : ¬ ((L.length : Int) = 1) := by omega
      exact sat_step (ρ1 := [some (.dat (ordD n ps)), some (.dat (lstD W)), some (.dat (.list (L.map lstD))), some (.dat (.str (wordS false))), none, none, none]) (by simp [h2', wordS]) (sat_step (ρ1 := [some (.dat (ordD n ps)), some (.dat (lstD W)), some (.dat (.list (L.map lstD))), some (.dat (.str (wordS false))), none, none, none]) (by simp [h2']) (parts false _ L k1 h2))
/-- the making of an order, if it has one -/
def mkO (n : Int) (ps : List P2) : Option Nd := nodeOf (rl ps) 24 (iota n)
theorem e_making_of {n : Int} {ps : List P2} (o : Ord n ps) : s_making_of [.dat (ordD n ps)] = .ret (optD (mkO n ps)) [] := by
  have h1 := o.n1
  have h2 := o.n16
  have e := e_node_of (n := n) o.po 24 (iota n) (iota_lt n) (fun e => by have := iota_len n; rw [e] at this; simp at this; omega) (by rw [iota_len]; omega) (by rw [iota_len]; omega)
  refine ret_sat ⟨_, _, ret_ap (ρ1 := [some (.dat (ordD n ps))]) (c_call (a_D (by simp) (a_D (c_N (nRg1_at (n := n) (by simp [e_works_of]) (by omega) (by omega))) rfl)) e), rfl⟩
theorem made_of {n : Int} {ps : List P2} (o : Ord n ps) {p : Nd} (c : Canon p) (t : Tells (rl ps) p) (s : srt p.works = iota n) (nd : p.works.Nodup) : Made n ps p := by
  refine ⟨c, nd, s, ?_, o.n16⟩
  have hm : ∀ x, x ∈ p.works ↔ 0 ≤ x ∧ x < n := fun x => by rw [← mem_srt, s, mem_iota]
  refine ltP_ext (srtP_lt (pairs_nodup p nd)) o.srt fun ⟨x, y⟩ => ?_
  rw [(srtP_perm _).mem_iff]
  have key := tells_iff o.po.irr t
  constructor
  · intro h
    have hw := pairs_works p h
    have := (key x hw.1 y hw.2).mpr h
    unfold rl at this
    simpa using this
  · intro h
    have := o.inn _ h
    exact (key x ((hm x).mpr ⟨this.1, this.2.1⟩) y ((hm y).mpr ⟨this.2.2.1, this.2.2.2⟩)).mp (by unfold rl; simpa using h)
theorem iota_ne {n : Int} (h : 1 ≤ n) : iota n ≠ [] := fun e => by have := iota_len n; rw [e] at this; simp at this; omega
/-- an order without an N is made -/
theorem mkO_some {n : Int} {ps : List P2} (o : Ord n ps) (h : nsL n ps = []) : ∃ p, mkO n ps = some p ∧ Made n ps p := by
  have h1 := o.n1
  have h2 := o.n16
  obtain ⟨p, e, c, t, s, nd⟩ := node_ex o.po 24 (iota n) (by rw [iota_len]; omega) (iota_ne h1) (iota_lt n) fun a _ b _ c _ d _ N => by
    have := (mem_nsL o (a, b, c, d)).mpr N
    rw [h] at this; cases this
  exact ⟨p, e, made_of o c t s nd⟩
theorem mkO_none {n : Int} {ps : List P2} (o : Ord n ps) {q : Q4} (h : q ∈ nsL n ps) : mkO n ps = none := by
  have N := (mem_nsL o q).mp h
  have inn : ∀ {x y : Int}, rl ps x y = true → (x ∈ iota n ∧ y ∈ iota n) := fun {x y} h => by
    have h' : (x, y) ∈ ps := by unfold rl at h; simpa using h
    have := o.inn _ h'
    exact ⟨mem_iota.mpr ⟨this.1, this.2.1⟩, mem_iota.mpr ⟨this.2.2.1, this.2.2.2⟩⟩
  exact node_none o.po N 24 (iota n) (iota_lt n) (inn N.ac).1 (inn N.bc).1 (inn N.ac).2 (inn N.bd).2
theorem mkO_of {n : Int} {ps : List P2} (o : Ord n ps) {p : Nd} (m : Made n ps p) : mkO n ps = some p := by
  have t : Tells (rl ps) p := tells_of p m.nodup fun x hx y hy => by
    have : (x, y) ∈ ps ↔ (x, y) ∈ p.pairs := by rw [← m.pairs, (srtP_perm _).mem_iff]
    unfold rl
    rw [decide_eq_true_eq, this]
  have := nodeOf_of o.po.irr m.canon 24 t m.nodup (by have := m.few.few; omega)
  rw [m.works] at this
  exact this
end Mo.K70
end
section
set_option autoImplicit false
set_option linter.all false
/-! V8: the law's look at an order. -/
namespace Mo.K70
open PySem Mo Mo.Or
theorem noX_ret {f : Fs} {s : List SV} {d : PyData} {io : List PyData} (h : f s = .ret d io) : noX f s = .ret d io := by
  unfold noX; rw [h]
theorem e_order_making_some {n : Int} {ps : List P2} (o : Ord n ps) {p : Nd} (h : mkO n ps = some p) : s_order_making [.dat (ordD n ps)] = .ret (nd p) [] := by
  have e := e_making_of o
  rw [h] at e
  have e1 := noX_ret (e_want_order o)
  have e2 := noX_ret e
  have hn : isNone (nd p) = false := isNone_opt (some p)
  refine ret_sat (sat_step (ρ1 := [some (.dat (ordD n ps)), some (.dat (nd p))]) (by simp [e1, e2, optD]) (sat_step (ρ1 := [some (.dat (ordD n ps)), some (.dat (nd p))]) (by simp [hn]) ⟨_, _, ret_ap (ρ1 := [some (.dat (ordD n ps)), some (.dat (nd p))]) (by simp), rfl⟩))
theorem e_order_making_none {n : Int} {ps : List P2} (o : Ord n ps) (h : mkO n ps = none) : ∃ io, s_order_making [.dat (ordD n ps)] = .exc ⟨"NotMade", none⟩ io := by
  have e := e_making_of o
  rw [h] at e
  have e1 := noX_ret (e_want_order o)
  have e2 := noX_ret e
  refine ⟨[], ?_⟩
  simp [s_order_making, b_order_making, bodyOf_ap, e1, e2, optD, sRaise]
theorem e__law_told_some {n : Int} {ps : List P2} (o : Ord n ps) {p : Nd} (h : mkO n ps = some p) : s__law_told [.dat (ordD n ps)] = .ret (nd p) [] := by
  refine ret_sat (sat_step (ρ1 := [some (.dat (ordD n ps)), some (.dat .none), none]) (by simp) (sat_step (ρ1 := [some (.dat (ordD n ps)), some (.dat (nd p)), none]) (by simp [sTryIs, e_order_making_some o h]) ⟨_, _, ret_ap (ρ1 := [some (.dat (ordD n ps)), some (.dat (nd p)), none]) (by simp), rfl⟩))
theorem e__law_told_none {n : Int} {ps : List P2} (o : Ord n ps) (h : mkO n ps = none) : s__law_told [.dat (ordD n ps)] = .ret (.bool true) [] := by
  obtain ⟨io, e⟩ := e_order_making_none o h
  refine ret_sat (sat_step (ρ1 := [some (.dat (ordD n ps)), some (.dat .none), none]) (by simp) (sat_step (ρ1 := [some (.dat (ordD n ps)), some (.dat (.bool true)), none]) (by simp [sTryIs, e]) ⟨_, _, ret_ap (ρ1 := [some (.dat (ordD n ps)), some (.dat (.bool true)), none]) (by simp), rfl⟩))
theorem e_paper_some {n : Int} {ps : List P2} (o : Ord n ps) {p : Nd} (h : mkO n ps = some p) : s_order_paper [.dat (ordD n ps)] = .ret (.tuple [.str "made", nd p]) [] := by
  have e := e_making_of o
  rw [h] at e
  have hn : isNone (nd p) = false := isNone_opt (some p)
  have : s_paper_of [.dat (ordD n ps)] = .ret (.tuple [.str "made", nd p]) [] := by
    simp [s_paper_of, b_paper_of, bodyOf_ap, e, optD, hn]
  simp [s_order_paper, b_order_paper, bodyOf_ap, e_want_order o, this]
theorem e_paper_none {n : Int} {ps : List P2} (o : Ord n ps) {q : Q4} {qs : List Q4} (h : nsL n ps = q :: qs) : s_order_paper [.dat (ordD n ps)] = .ret (.tuple [.str "n", quD q]) [] := by
  have e := e_making_of o
  rw [mkO_none o (q := q) (by rw [h]; exact .head _)] at e
  have e2 := e_ns_of o
  have e3 : srtQ (nsRaw (rl ps) (iota n) ps) = q :: qs := h
  rw [e3] at e2
  have : s_paper_of [.dat (ordD n ps)] = .ret (.tuple [.str "n", quD q]) [] := by
    simp [s_paper_of, b_paper_of, bodyOf_ap, e, optD, e2]
  simp [s_order_paper, b_order_paper, bodyOf_ap, e_want_order o, this]
theorem nsL_inn {n : Int} {ps : List P2} (o : Ord n ps) {q : Q4} (h : q ∈ nsL n ps) : 0 ≤ q.1 ∧ q.1 < n ∧ 0 ≤ q.2.1 ∧ q.2.1 < n ∧ 0 ≤ q.2.2.1 ∧ q.2.2.1 < n ∧ 0 ≤ q.2.2.2 ∧ q.2.2.2 < n := by
  have N := (mem_nsL o q).mp h
  have inn : ∀ {x y : Int}, rl ps x y = true → ((0 ≤ x ∧ x < n) ∧ (0 ≤ y ∧ y < n)) := fun {x y} h => by
    have h' : (x, y) ∈ ps := by unfold rl at h; simpa using h
    have := o.inn _ h'
    exact ⟨⟨this.1, this.2.1⟩, ⟨this.2.2.1, this.2.2.2⟩⟩
  have h1 := inn N.ac
  have h2 := inn N.bd
  exact ⟨h1.1.1, h1.1.2, h2.1.1, h2.1.2, h1.2.1, h1.2.2, h2.2.1, h2.2.2⟩
theorem e_is_n {n : Int} {ps : List P2} (o : Ord n ps) {q : Q4} (h : q ∈ nsL n ps) : s_is_n [.dat (ordD n ps), .dat (quD q)] = .ret (.bool true) [] := by
  have e := e_is_n_of o q (nsL_inn o h)
  rw [(nB_iff _ _ _ _ _).mpr ((mem_nsL o q).mp h)] at e
  simp [s_is_n, b_is_n, bodyOf_ap, e_want_order o, e]
theorem e_n_paper {n : Int} {ps : List P2} (o : Ord n ps) {q : Q4} (h : q ∈ nsL n ps) : s_is_order_paper [.dat (ordD n ps), .dat (.tuple [.str "n", quD q])] = .ret (.bool true) [] := by
  have e := e_is_n_of o q (nsL_inn o h)
  rw [(nB_iff _ _ _ _ _).mpr ((mem_nsL o q).mp h)] at e
  have r2 : s_is_row [.dat (.tuple [.str "n", quD q]), .dat (.int 2)] = .ret (.bool true) [] := e_is_row _ _
  have nm : ¬ (Str.ofString "n" = Str.ofString "made") := by decide
  have h : s_is_paper_of [.dat (ordD n ps), .dat (.tuple [.str "n", quD q])] = .ret (.bool true) [] := by
    simp [s_is_paper_of, b_is_paper_of, bodyOf_ap, r2, e, nm]
  simp [s_is_order_paper, b_is_order_paper, bodyOf_ap, e_want_order o, h]
theorem e_ns {n : Int} {ps : List P2} (o : Ord n ps) : s_ns [.dat (ordD n ps)] = .ret (.list ((nsL n ps).map quD)) [] := by
  simp [s_ns, b_ns, bodyOf_ap, e_want_order o, e_ns_of o, nsL]
theorem nsL_len {n : Int} {ps : List P2} (o : Ord n ps) : (nsL n ps).length ≤ 65536 := by
  have hl := o.len
  have n16 := o.n16
  have lw : (iota n).length ≤ 16 := by rw [iota_len]; omega
  have lP : ∀ p, (nsP (rl ps) (iota n) p).length ≤ 256 := fun p => Nat.le_trans (nsP_len _ _ _) (Nat.mul_le_mul lw lw)
  unfold nsL srtQ
  rw [List.length_mergeSort]
  exact Nat.le_trans (flatMap_len ps fun p _ => lP p) (Nat.mul_le_mul_right 256 hl)

/-! ### repr -/
structure Rep (k w : Nat) (d : PyData) : Prop where
  fine : Fine k d
  wgt : d.weight ≤ w
  sho : d.showable = true
  ish : d.intsShort 13 = true
theorem Rep.mono {j k v w : Nat} {d : PyData} (h : Rep j v d) (a : j ≤ k) (b : v ≤ w) : Rep k w d := ⟨h.fine.mono a, Nat.le_trans h.wgt b, h.sho, h.ish⟩
theorem rep_int {i : Int} (h1 : 0 ≤ i) (h2 : i < 17) : Rep 0 5 (.int i) := by
  have go : ∀ j : Nat, j < 17 → (PyData.int (j : Int)).weight ≤ 5 ∧ (PyData.int (j : Int)).showable = true ∧ (PyData.int (j : Int)).intsShort 13 = true := by decide +kernel
  have e : i = ((i.toNat : Nat) : Int) := by omega
  obtain ⟨a, b, c⟩ := go i.toNat (by omega)
  rw [← e] at a b c
  exact ⟨fine_int i, a, b, c⟩
theorem wAll {w : Nat} {xs : List PyData} (h : ∀ x ∈ xs, x.weight ≤ w) : PyData.weightAll xs ≤ xs.length * (w + 1) := by
  induction xs with
  | nil => exact Nat.zero_le _
  | cons x xs ih =>
    have h1 := h x (.head _)
    have h2 := ih fun y hy => h y (.tail _ hy)
    rw [PyData.weightAll, List.length_cons, Nat.succ_mul]
    omega
theorem shoAll {xs : List PyData} (h : ∀ x ∈ xs, x.showable = true) : PyData.showableAll xs = true := by
  induction xs with
  | nil => rfl
  | cons x xs ih => rw [PyData.showableAll, h x (.head _), ih fun y hy => h y (.tail _ hy)]; rfl
theorem intAll {xs : List PyData} (h : ∀ x ∈ xs, x.intsShort 13 = true) : PyData.intsShortAll 13 xs = true := by
  induction xs with
  | nil => rfl
  | cons x xs ih => rw [PyData.intsShortAll, h x (.head _), ih fun y hy => h y (.tail _ hy)]; rfl
theorem rep_list {k w : Nat} {xs : List PyData} (h : ∀ x ∈ xs, Rep k w x) : Rep (k + 1) (xs.length * (w + 1)) (.list xs) :=
  ⟨fine_list fun x hx => (h x hx).fine, by rw [PyData.weight]; exact wAll fun x hx => (h x hx).wgt, by rw [PyData.showable]; exact shoAll fun x hx => (h x hx).sho, by rw [PyData.intsShort]; exact intAll fun x hx => (h x hx).ish⟩
theorem rep_tuple {k w : Nat} {xs : List PyData} (h : ∀ x ∈ xs, Rep k w x) : Rep (k + 1) (xs.length * (w + 1)) (.tuple xs) :=
  ⟨fine_tuple fun x hx => (h x hx).fine, by rw [PyData.weight]; exact wAll fun x hx => (h x hx).wgt, by rw [PyData.showable]; exact shoAll fun x hx => (h x hx).sho, by rw [PyData.intsShort]; exact intAll fun x hx => (h x hx).ish⟩
theorem opRepr_l {k w : Nat} {xs : List PyData} (h : Rep k w (.list xs)) (hk : k ≤ 64) (hw : w ≤ 1048576) : opRepr (.list xs) = some (.str (PyData.list xs).shown) := by
  have h1 : reprOk (.list xs) = true := by
    unfold reprOk PyData.layable0
    rw [h.fine.lay, h.sho, h.ish]
    have a := h.fine.dep
    have b := h.wgt
    simp only [Bool.true_and, Bool.and_true, Bool.and_eq_true, decide_eq_true_eq]
    exact ⟨by omega, by omega⟩
  unfold opRepr
  rw [h1]
  rfl
theorem rep_qu {n : Int} {ps : List P2} (o : Ord n ps) {q : Q4} (h : q ∈ nsL n ps) : Rep 1 24 (quD q) := by
  have hi := nsL_inn o h
  have n16 := o.n16
  refine rep_tuple (k := 0) (w := 5) (xs := [.int q.1, .int q.2.1, .int q.2.2.1, .int q.2.2.2]) fun x hx => ?_
  simp only [List.mem_cons, List.not_mem_nil, or_false] at hx
  rcases hx with rfl | rfl | rfl | rfl
  · exact rep_int hi.1 (by omega)
  · exact rep_int hi.2.2.1 (by omega)
  · exact rep_int hi.2.2.2.2.1 (by omega)
  · exact rep_int hi.2.2.2.2.2.2.1 (by omega)
def q8 : List Q4 := (List.range 8).flatMap fun (a : Nat) => (List.range 8).flatMap fun (b : Nat) => (List.range 8).flatMap fun (c : Nat) => (List.range 8).map fun (d : Nat) => ((a : Int), (b : Int), (c : Int), (d : Int))
theorem nsL_nodup {n : Int} {ps : List P2} (o : Ord n ps) : (nsL n ps).Nodup := (List.mergeSort_perm _ _).nodup_iff.mpr (nsRaw_nodup o)
theorem nsL_few {n : Int} {ps : List P2} (o : Ord n ps) (h8 : n ≤ 8) : (nsL n ps).length ≤ 4096 := by
  have := nodup_le (l := nsL n ps) (m := q8) (nsL_nodup o) fun q hq => by
    have hi := nsL_inn o hq
    unfold q8
    refine List.mem_flatMap.mpr ⟨q.1.toNat, List.mem_range.mpr (by omega), List.mem_flatMap.mpr ⟨q.2.1.toNat, List.mem_range.mpr (by omega), List.mem_flatMap.mpr ⟨q.2.2.1.toNat, List.mem_range.mpr (by omega), List.mem_map.mpr ⟨q.2.2.2.toNat, List.mem_range.mpr (by omega), ?_⟩⟩⟩⟩
    refine Prod.ext ?_ (Prod.ext ?_ (Prod.ext ?_ ?_)) <;> simp <;> omega
  exact Nat.le_trans this (by decide +kernel)
theorem repr_ns {n : Int} {ps : List P2} (o : Ord n ps) (h8 : n ≤ 8) : opRepr (.list [.list ((nsL n ps).map quD), .list ((nsL n ps).map quD)]) = some (.str (PyData.list [.list ((nsL n ps).map quD), .list ((nsL n ps).map quD)]).shown) := by
  have h1 : Rep 2 (4096 * 25) (.list ((nsL n ps).map quD)) := by
    refine (rep_list (k := 1) (w := 24) fun x hx => ?_).mono (Nat.le_refl _) ?_
    · obtain ⟨q, hq, rfl⟩ := List.mem_map.mp hx
      exact rep_qu o hq
    · rw [List.length_map]
      exact Nat.mul_le_mul_right _ (nsL_few o h8)
  refine opRepr_l (k := 3) (w := 2 * (4096 * 25 + 1)) (rep_list (k := 2) (w := 4096 * 25) (xs := [.list ((nsL n ps).map quD), .list ((nsL n ps).map quD)]) fun x hx => ?_) (by decide) (by decide)
  simp only [List.mem_cons, List.not_mem_nil, or_false, or_self] at hx
  subst hx
  exact h1
theorem repr_ord {n : Int} {ps : List P2} (o : Ord n ps) : opRepr (.list [ordD n ps, ordD n ps]) = some (.str (PyData.list [ordD n ps, ordD n ps]).shown) := by
  have h1 := o.n1
  have h2 := o.n16
  have hl := o.len
  have hp : Rep 2 (256 * 13) (.tuple (ps.map prD)) := by
    refine (rep_tuple (k := 1) (w := 12) fun x hx => ?_).mono (Nat.le_refl _) ?_
    · obtain ⟨p, hp, rfl⟩ := List.mem_map.mp hx
      have := o.inn p hp
      refine rep_tuple (k := 0) (w := 5) (xs := [.int p.1, .int p.2]) fun x hx => ?_
      simp only [List.mem_cons, List.not_mem_nil, or_false] at hx
      rcases hx with rfl | rfl
      · exact rep_int this.1 (by omega)
      · exact rep_int this.2.2.1 (by omega)
    · rw [List.length_map]
      exact Nat.mul_le_mul_right _ hl
  have ho : Rep 3 (3 * (256 * 13 + 1)) (ordD n ps) := by
    refine rep_tuple (k := 2) (w := 256 * 13) (xs := [.str "order", .int n, .tuple (ps.map prD)]) fun x hx => ?_
    simp only [List.mem_cons, List.not_mem_nil, or_false] at hx
    rcases hx with rfl | rfl | rfl
    · exact ⟨(fine_str (by decide +kernel)).mono (by omega), by decide +kernel, by decide +kernel, by decide +kernel⟩
    · exact (rep_int (by omega) (by omega)).mono (by omega) (by omega)
    · exact hp
  refine opRepr_l (k := 4) (w := 2 * (3 * (256 * 13 + 1) + 1)) (rep_list (k := 3) (w := 3 * (256 * 13 + 1)) (xs := [ordD n ps, ordD n ps]) fun x hx => ?_) (by decide) (by decide)
  simp only [List.mem_cons, List.not_mem_nil, or_false, or_self] at hx
  subst hx
  exact ho
@[simp] theorem cRepr_ap (f : Ex) (ρ : En) : cRepr f ρ = (f ρ).bind fun a ρ => lift (opRepr a) ρ := rfl
@[simp] theorem turnIf_f {α : Type} (l : List α) : turnIf false l = l := rfl
@[simp] theorem turnIf_t {α : Type} (l : List α) : turnIf true l = l.reverse := rfl
theorem e__law_right {n : Int} {ps : List P2} (o : Ord n ps) (h8 : n ≤ 8) (pot : List PyData) : s__law_right [.own pot, .dat (ordD n ps)] = .ret (.bool true) pot := by
  have e1 := e__law_fours o
  rw [fours_ns o] at e1
  have ens := e_ns o
  have ernn := repr_ns o h8
  have wqs : Fine 2 (.list ((nsL n ps).map quD)) := wr_qu.list.fine (nsL n ps)
  have nmn : ¬ (Str.ofString "n" = Str.ofString "made") := by decide
  have nmn2 : ¬ (Str.ofString "made" = Str.ofString "n") := by decide
  cases hq : nsL n ps with
  | nil =>
    rw [hq] at e1 ens ernn
    obtain ⟨p, hp, m⟩ := mkO_some o hq
    have e2 := e__law_told_some o hp
    have e3 := e_paper_some o hp
    have e4 := m.e_paper o
    have e5 := m.e__law_is_making
    have e6 := e_order_making_some o hp
    have e7 := m.e_is_order_making o
    have e8 := m.e_order_by_making
    have e9 := repr_ord o
    have fp : Fine 64 (nd p) := (fine_nd p).mono (show 2 * hgt p + 1 ≤ 64 by have := m.few.full.hgt; have := m.few.few; omega)
    have fp2 : Fine 64 (.tuple [.str "made", nd p]) := (fine_tuple (k := 2 * hgt p + 1) fun x hx => by
      simp only [List.mem_cons, List.not_mem_nil, or_false] at hx
      rcases hx with rfl | rfl
      · exact (fine_str (by decide +kernel)).mono (by omega)
      · exact fine_nd p).mono (show 2 * hgt p + 1 + 1 ≤ 64 by have := m.few.full.hgt; have := m.few.few; omega)
    have g1 := opNe_self fp
    have g2 := opNe_self fp2
    have z1 : opEq (.list []) (.list []) = some (.bool true) := rfl
    have z2 : opNe (.list []) (.list []) = some (.bool false) := rfl
    refine retP_of (ρ := [some (.dat (ordD n ps)), some (.dat (.list [])), some (.dat (nd p)), some (.dat (.tuple [.str "made", nd p])), none]) ?_
    refine seq_nx (ρ1 := [some (.own pot), some (.dat (ordD n ps)), some (.dat (.list [])), some (.dat (nd p)), some (.dat (.tuple [.str "made", nd p])), none]) (by simp [e1, e2, e3]) ?_
    refine seq_nx (ρ1 := [some (.own pot), some (.dat (ordD n ps)), some (.dat (.list [])), some (.dat (nd p)), some (.dat (.tuple [.str "made", nd p])), none]) ?_ ?_
    · simp at ernn
      simp [ens, ernn, z1]
    refine seq_nx (ρ1 := [some (.own pot), some (.dat (ordD n ps)), some (.dat (.list [])), some (.dat (nd p)), some (.dat (.tuple [.str "made", nd p])), none]) ?_ ?_
    · simp [e3, e4]
    refine seq_nx (ρ1 := [some (.own pot), some (.dat (ordD n ps)), some (.dat (.list [])), some (.dat (nd p)), some (.dat (.tuple [.str "made", nd p])), none]) ?_ ?_
    · simp [z2]
    refine seq_nx (ρ1 := [some (.own pot), some (.dat (ordD n ps)), some (.dat (.list [])), some (.dat (nd p)), some (.dat (.tuple [.str "made", nd p])), none]) ?_ ?_
    · simp [e5, e6, g1, g2]
    · simp [e7, e8, e9]
  | cons q qs =>
    rw [hq] at e1 ens ernn wqs
    have hm : q ∈ nsL n ps := by rw [hq]; exact .head _
    have e2 := e__law_told_none o (mkO_none o hm)
    have e3 := e_paper_none o hq
    have e4 := e_n_paper o hm
    have e5 := e_is_n o hm
    have lq := nsL_few o h8
    rw [hq] at lq
    have z1 := opEq_nil wqs
    have z2 := opNe_nil wqs
    have z3 := wr_qu.inL (by decide) q (q :: qs)
    simp only [List.isEmpty_cons, List.map_cons] at z1 z2 z3 ernn
    refine retP_of (ρ := [some (.dat (ordD n ps)), some (.dat (.list (quD q :: qs.map quD))), some (.dat (.bool true)), some (.dat (.tuple [.str "n", quD q])), none]) ?_
    refine seq_nx (ρ1 := [some (.own pot), some (.dat (ordD n ps)), some (.dat (.list (quD q :: qs.map quD))), some (.dat (.bool true)), some (.dat (.tuple [.str "n", quD q])), none]) (by simp [e1, e2, e3]) ?_
    refine seq_nx (ρ1 := [some (.own pot), some (.dat (ordD n ps)), some (.dat (.list (quD q :: qs.map quD))), some (.dat (.bool true)), some (.dat (.tuple [.str "n", quD q])), none]) ?_ ?_
    · simp [ens, ernn, z1]
    refine seq_nx (ρ1 := [some (.own pot), some (.dat (ordD n ps)), some (.dat (.list (quD q :: qs.map quD))), some (.dat (.bool true)), some (.dat (.tuple [.str "n", quD q])), none]) ?_ ?_
    · simp [e3, e4]
    refine seq_ret ?_
    refine if_yes (ρ1 := [some (.own pot), some (.dat (ordD n ps)), some (.dat (.list (quD q :: qs.map quD))), some (.dat (.bool true)), some (.dat (.tuple [.str "n", quD q])), none]) (by simp [z2]) (ret_ap ?_)
    refine c_and (a := true) (b := true) (by simp) fun _ => c_and (a := true) (b := true) (by simp [z3]) fun _ => c_and (a := true) (b := true) (by simp [e5]) fun _ => c_bin (c_N (nLc_if (D := quD) (p := fun _ => false) (E := quD) (ys := q :: qs) (by simp) (by simp) (fun q' hq' => ?_) (by omega))) (y := .list []) (by simp) ?_
    · have := e_n_paper o (q := q') (by rw [hq]; exact hq')
      simp [this]
    · have e0 : ((q :: qs).filter fun _ => false) = [] := List.filter_eq_nil_iff.mpr fun _ _ => Bool.false_ne_true
      rw [e0]; rfl
end Mo.K70
end
section
set_option autoImplicit false
set_option linter.all false
/-! V9: what the law draws. -/
namespace Mo.K70
open PySem Mo Mo.Or
def PotOk (xs : List PyData) : Prop := ∃ a b : Int, xs = [.int a, .int b] ∧ 0 ≤ a ∧ 0 ≤ b ∧ b ≤ 2147483587
@[simp] theorem gPut_ap (i : Nat) (f : Ex) (d : PyData) (ρ : En) : gPut i f d ρ = (lV i ρ).bind fun _ ρ => (f ρ).bind fun k ρ => (lV i ρ).bind fun xs ρ => match k with
  | .int z => (match ixAt xs.length z with | some j => .ok () (ρ.set i (some (.own (xs.set j d)))) | none => .stuck)
  | _ => .stuck := rfl
theorem opDivmod_i {i j : Int} (h1 : 0 < j) (h2 : j < 1000000) : opDivmod (.int i) (.int j) = some (.tuple [.int (i / j), .int (i % j)]) := by
  show (if 0 < j ∧ j < 1073741824 then _ else _) = _
  rw [if_pos ⟨h1, by omega⟩]
theorem opMul_i {i j : Int} (h : -(2 ^ 64) < j ∧ j < 2 ^ 64) : opMul (.int i) (.int j) = some (.int (i * j)) := by
  show (if mulOk i j = true then _ else _) = _
  rw [if_pos (by
    unfold mulOk
    simp only [Bool.or_eq_true, Bool.and_eq_true, decide_eq_true_eq]
    exact .inr h)]
theorem opMod_i {i j : Int} (h : 0 < j) : opMod (.int i) (.int j) = some (.int (i % j)) := by
  show (if 0 < j then _ else _) = _
  rw [if_pos h]
theorem opDiv_i {i j : Int} (h : 0 < j) (h2 : j < 1000000) : opDiv (.int i) (.int j) = some (.int (i / j)) := by
  show (if 0 < j ∧ j < 1073741824 then _ else _) = _
  rw [if_pos ⟨h, by omega⟩]
@[simp] theorem item2_0 (a b : PyData) : itemAt [a, b] 0 = some a := rfl
@[simp] theorem item2_1 (a b : PyData) : itemAt [a, b] 1 = some b := rfl
@[simp] theorem ixAt2_0 : ixAt 2 0 = some 0 := rfl
@[simp] theorem ixAt2_1 : ixAt 2 1 = some 1 := rfl
theorem e__law_draw {xs : List PyData} (h : PotOk xs) {many : Int} (h1 : 1 ≤ many) (h2 : many < 1000000) : ∃ (d : Int) (ys : List PyData), s__law_draw [.own xs, .dat (.int many)] = .ret (.int d) ys ∧ 0 ≤ d ∧ d < many ∧ PotOk ys := by
  obtain ⟨a, b, rfl, ha, hb, hb2⟩ := h
  by_cases c : 0 < a
  · refine ⟨a % many, [.int (a / many), .int b], ?_, Int.emod_nonneg _ (by omega), Int.emod_lt_of_pos _ (by omega), a / many, b, rfl, Int.ediv_nonneg ha (by omega), hb, hb2⟩
    refine retP_of (ρ := [some (.dat (.int many)), some (.dat (.int (a % many)))]) (seq_ret (if_yes (ρ1 := [some (.own [.int a, .int b]), some (.dat (.int many)), none]) (by simp [c]) (seq_nx (ρ1 := [some (.own [.int (a / many), .int b]), some (.dat (.int many)), some (.dat (.int (a % many)))]) ?_ (ret_ap (by simp)))))
    simp [opDivmod_i (show 0 < many by omega) h2]
  · let b' : Int := (b * 48271 + 1087) % 2147483587
    have l1 : 0 ≤ b' := Int.emod_nonneg _ (by omega)
    have l2 : b' < 2147483587 := Int.emod_lt_of_pos _ (by omega)
    refine ⟨(b' * b') % 2147483563 / 19 % many, [.int a, .int b'], ?_, Int.emod_nonneg _ (by omega), Int.emod_lt_of_pos _ (by omega), a, b', rfl, ha, l1, by omega⟩
    have m1 : opMul (.int b) (.int 48271) = some (.int (b * 48271)) := opMul_i (by omega)
    have m2 : opMul (.int b') (.int b') = some (.int (b' * b')) := opMul_i (by omega)
    have m3 : opMod (.int (b * 48271 + 1087)) (.int 2147483587) = some (.int b') := opMod_i (by omega)
    have m4 : opMod (.int (b' * b')) (.int 2147483563) = some (.int ((b' * b') % 2147483563)) := opMod_i (by omega)
    have m5 : opDiv (.int ((b' * b') % 2147483563)) (.int 19) = some (.int ((b' * b') % 2147483563 / 19)) := opDiv_i (by omega) (by omega)
    have m6 : opMod (.int ((b' * b') % 2147483563 / 19)) (.int many) = some (.int ((b' * b') % 2147483563 / 19 % many)) := opMod_i (by omega)
    clear_value b'
    refine retP_of (ρ := [some (.dat (.int many)), none]) (seq_nx (ρ1 := [some (.own [.int a, .int b]), some (.dat (.int many)), none]) (by simp [c]) (seq_nx (ρ1 := [some (.own [.int a, .int b']), some (.dat (.int many)), none]) ?_ (ret_ap ?_)))
    · simp [m1, m3]
    · simp [m2, m4, m5, m6]
@[simp] theorem cIxS_ap (i : Nat) (g : Ex) (ρ : En) : cIxS i g ρ = (lS i ρ).bind fun _ ρ => (g ρ).bind fun k ρ => (lS i ρ).bind fun xs ρ => match k with
  | .int z => lift (itemAt xs z) ρ
  | _ => .stuck := rfl
theorem pow18 : opPow (.int 10) (.int 18) = some (.int 1000000000000000000) := by
  show (if (0 : Int) ≤ 18 ∧ (18 : Int) ≤ 1000000 ∧ (10 : Int).natAbs < 2 ^ 64 then some (PyData.int (10 ^ (18 : Int).toNat)) else none) = _
  rw [if_pos (by decide)]; rfl
theorem e__law_pot (ns : List Int) {k : Int} (hk : k = 0 ∨ k = 1) : ∃ xs, s__law_pot [.scr ns, .dat (.int k)] = .ret (.list xs) [] ∧ PotOk xs := by
  have fin : ∀ cell : Int, ∃ xs, (∀ ρ2 : En, ρ2 = [some (.scr ns), some (.dat (.int k)), some (.dat (.int cell))] → sRetL (nLst (dCons (cBin opMax2 (cK (.int 0)) (cBin opSub (cV 2) (cBin opPow (cK (.int 10)) (cK (.int 18))))) (dCons (cBin opAdd (cBin opMod (cUn opInt (cBin opAdd (cBin opAdd (cBin opMul (cBin opMod (cUn opInt (cV 2)) (cK (.int 2147483549))) (cK (.int 41221))) (cBin opMul (cK (.int 643)) (cV 1))) (cK (.int 59)))) (cK (.int 2147483563))) (cK (.int 1))) (dNil)))) ρ2 = .ok (.rtn xs) ρ2) ∧ PotOk xs := fun cell => by
    have m1 : opMod (.int cell) (.int 2147483549) = some (.int (cell % 2147483549)) := opMod_i (by omega)
    have m2 : opMul (.int (cell % 2147483549)) (.int 41221) = some (.int (cell % 2147483549 * 41221)) := opMul_i (by omega)
    have m3 : opMul (.int 643) (.int k) = some (.int (643 * k)) := opMul_i (by omega)
    have m4 : opMod (.int (cell % 2147483549 * 41221 + 643 * k + 59)) (.int 2147483563) = some (.int ((cell % 2147483549 * 41221 + 643 * k + 59) % 2147483563)) := opMod_i (by omega)
    refine ⟨[.int (if 0 < cell - 1000000000000000000 then cell - 1000000000000000000 else 0), .int ((cell % 2147483549 * 41221 + 643 * k + 59) % 2147483563 + 1)], fun ρ2 e => ?_, _, _, rfl, ?_, ?_, ?_⟩
    · subst e
      simp [pow18, m1, m2, m3, m4]
    · split <;> omega
    · have := Int.emod_nonneg (cell % 2147483549 * 41221 + 643 * k + 59) (show (2147483563 : Int) ≠ 0 by omega)
      omega
    · have := Int.emod_lt_of_pos (cell % 2147483549 * 41221 + 643 * k + 59) (show (0 : Int) < 2147483563 by omega)
      omega
  have m0 : opMul (.int 1031) (.int k) = some (.int (1031 * k)) := opMul_i (by omega)
  by_cases c : k < (ns.length : Int)
  · have hx : ∃ x, ns[k.toNat]? = some x := ⟨ns[k.toNat]'(by omega), List.getElem?_eq_getElem _⟩
    obtain ⟨x, hx⟩ := hx
    have hi : itemAt (ns.map .int) k = some (.int x) := by
      have e : k = ((k.toNat : Nat) : Int) := by omega
      rw [e]
      exact itemAt_n (by rw [List.getElem?_map, hx]; rfl)
    obtain ⟨xs, h1, h2⟩ := fin (x.natAbs : Int)
    refine ⟨xs, retN_of (ρ := [some (.scr ns), some (.dat (.int k)), some (.dat (.int (x.natAbs : Int)))]) (seq_nx (ρ1 := [some (.scr ns), some (.dat (.int k)), some (.dat (.int (1031 * k + 643)))]) (by simp [m0]) (seq_nx (ρ1 := [some (.scr ns), some (.dat (.int k)), some (.dat (.int (x.natAbs : Int)))]) ?_ (h1 _ rfl))), h2⟩
    simp [c, hi]
  · obtain ⟨xs, h1, h2⟩ := fin (1031 * k + 643)
    refine ⟨xs, retN_of (ρ := [some (.scr ns), some (.dat (.int k)), some (.dat (.int (1031 * k + 643)))]) (seq_nx (ρ1 := [some (.scr ns), some (.dat (.int k)), some (.dat (.int (1031 * k + 643)))]) (by simp [m0]) (seq_nx (ρ1 := [some (.scr ns), some (.dat (.int k)), some (.dat (.int (1031 * k + 643)))]) ?_ (h1 _ rfl))), h2⟩
    simp [c]
@[simp] theorem cPopAt_ap (i : Nat) (f : Ex) (ρ : En) : cPopAt i f ρ = (lV i ρ).bind fun _ ρ => (f ρ).bind fun k ρ => (lV i ρ).bind fun xs ρ => match k with
  | .int z => if big63 z then (match ixAt xs.length z with
    | some j => (match xs[j]? with | some d => .ok d (ρ.set i (some (.own (xs.eraseIdx j)))) | none => .stuck)
    | none => .stuck) else .stuck
  | _ => .stuck := rfl
theorem perm_erase {α : Type} : ∀ {xs : List α} {j : Nat} {x : α}, xs[j]? = some x → (x :: xs.eraseIdx j).Perm xs
  | [], _, _, h => by simp at h
  | a :: xs, 0, x, h => by
    simp at h
    subst h
    exact .refl _
  | a :: xs, j + 1, x, h => by
    have := perm_erase (xs := xs) (j := j) (x := x) (by simpa using h)
    rw [List.eraseIdx_cons_succ]
    exact (List.Perm.swap a x _).trans (this.cons a)
theorem big63_of {z : Int} (h1 : 0 ≤ z) (h2 : z < 1000000) : big63 z = true := by
  unfold big63
  simp
  omega
theorem ixAt_of {n : Nat} {z : Int} (h1 : 0 ≤ z) (h2 : z < n) : ixAt n z = some z.toNat := by
  unfold ixAt
  rw [if_pos h1, if_pos h2]
theorem map_eraseIdx {α β : Type} (f : α → β) : ∀ (xs : List α) (j : Nat), (xs.map f).eraseIdx j = (xs.eraseIdx j).map f
  | [], _ => by simp
  | a :: xs, 0 => by simp
  | a :: xs, j + 1 => by simp [map_eraseIdx f xs j]
theorem e__law_shuffled {α : Type} {D : α → PyData} {k : Nat} (w : ∀ a, Fine k (D a)) {xs : List PyData} (h : PotOk xs) (all : List α) (hl : all.length < 4000) :
    ∃ (out : List α) (ys : List PyData), s__law_shuffled [.own xs, .dat (.list (all.map D))] = .ret (.list (out.map D)) ys ∧ out.Perm all ∧ PotOk ys := by
  have key : ∃ d ys, bodyOf b__law_shuffled 2 true [.own xs, .dat (.list (all.map D))] = .ret d ys ∧ (∃ out : List α, d = .list (out.map D) ∧ out.Perm all) ∧ PotOk ys := by
    refine retP_sat (R := fun d ys => (∃ out : List α, d = .list (out.map D) ∧ out.Perm all) ∧ PotOk ys) ?_
    refine sat_step (ρ1 := [some (.own xs), some (.dat (.list (all.map D))), some (.own (all.map D)), some (.own [])]) (by simp) (sat_seq ?_)
    refine sat_while (fun m ρ => ∃ (left found : List α) (pot : List PyData), m = left.length ∧ PotOk pot ∧ (left ++ found).Perm all ∧ ρ = [some (.own pot), some (.dat (.list (all.map D))), some (.own (left.map D)), some (.own (found.map D))]) all.length (by omega) ⟨all, [], xs, rfl, h, by simp, rfl⟩ ?_
    rintro m ρ ⟨left, found, pot, rfl, hp, pm, rfl⟩
    have fl : (PyData.list (left.map D)).canLay0 = true := (fine_list (k := k) fun d hd => by
      obtain ⟨a, _, rfl⟩ := List.mem_map.mp hd
      exact w a).lay
    have ll : left.length + found.length = all.length := by rw [← pm.length_eq, List.length_append]
    refine ⟨!left.isEmpty, _, t_D (by simp [fl]), fun hc => ?_, fun hc => ?_⟩
    · have : left = [] := by cases left with
        | nil => rfl
        | cons a r => cases hc
      subst this
      exact ⟨rfl, _, _, ret_fz rfl, _, pot, _, rfl, rfl, ⟨found, rfl, by simpa using pm⟩, hp⟩
    · have lp : 1 ≤ (left.length : Int) := by
        cases left with
        | nil => cases hc
        | cons a r => simp; omega
      obtain ⟨d, ys, e, d1, d2, hy⟩ := e__law_draw hp (many := (left.length : Int)) lp (by omega)
      obtain ⟨x, hx⟩ : ∃ x, left[d.toNat]? = some x := ⟨left[d.toNat]'(by omega), List.getElem?_eq_getElem _⟩
      have hx2 : (left.map D)[d.toNat]? = some (D x) := by rw [List.getElem?_map, hx]; rfl
      have pe := perm_erase hx
      refine ⟨.nx, [some (.own ys), some (.dat (.list (all.map D))), some (.own ((left.eraseIdx d.toNat).map D)), some (.own ((found ++ [x]).map D))], ?_, rfl, (left.eraseIdx d.toNat).length, ?_, left.eraseIdx d.toNat, found ++ [x], ys, rfl, hy, ?_, rfl⟩
      · have i1 : ixAt left.length d = some d.toNat := ixAt_of d1 d2
        have b1 := big63_of d1 (show d < 1000000 by omega)
        have mm : found.length < maxSeq := by unfold maxSeq; omega
        simp [e, i1, b1, hx2, hx, mm, map_eraseIdx]
      · have := pe.length_eq
        simp only [List.length_cons] at this
        omega
      · refine List.Perm.trans ?_ pm
        have : (left.eraseIdx d.toNat ++ (found ++ [x])).Perm ((x :: left.eraseIdx d.toNat) ++ found) := by
          refine (List.perm_append_comm_assoc _ _ _).trans ?_
          refine (List.Perm.append_left found List.perm_append_comm).trans ?_
          exact List.perm_append_comm
        exact this.trans (pe.append_right found)
  obtain ⟨d, ys, e, ⟨out, rfl, pm⟩, hy⟩ := key
  exact ⟨out, ys, e, pm, hy⟩

/-! ### closing -/
theorem tupsOf_pr : ∀ xs : List P2, tupsOf (xs.map prD) = some (xs.map pl)
  | [] => rfl
  | p :: r => by
    rw [List.map_cons, prD, tupsOf]
    show (some [p.1, p.2]).bind _ = _
    rw [Option.bind_some, tupsOf_pr r]; rfl
@[simp] theorem nSortSet_ap (l : Ls) (ρ : En) : nSortSet l ρ = (l ρ).bind fun xs ρ => match tupsOf xs with
  | some nss => if setOk nss then .ok ((sortT nss).map tupI) ρ else .stuck
  | none => .stuck := rfl
/-- pairs of unlike works below 8 -/
def Unl (xs : List P2) : Prop := ∀ p ∈ xs, 0 ≤ p.1 ∧ p.1 < 8 ∧ 0 ≤ p.2 ∧ p.2 < 8 ∧ p.1 ≠ p.2
def u56 : List (List Int) := ((List.range 8).flatMap fun (i : Nat) => (List.range 8).map fun (j : Nat) => [(i : Int), (j : Int)]).filter fun l => decide (l.headD 0 ≠ l.getLastD 0)
theorem setOk_un {xs : List P2} (h : Unl xs) : setOk (xs.map pl) = true := by
  unfold setOk
  simp only [Bool.and_eq_true, List.all_eq_true, decide_eq_true_eq]
  refine ⟨⟨fun ns hns => ?_, fun ns hns ms hms => ?_⟩, ?_⟩
  · obtain ⟨p, hp, rfl⟩ := List.mem_map.mp hns
    have := h p hp
    refine ⟨by simp [pl], fun n hn => ?_⟩
    simp only [pl, List.mem_cons, List.not_mem_nil, or_false] at hn
    rcases hn with rfl | rfl <;> omega
  · obtain ⟨p, hp, rfl⟩ := List.mem_map.mp hns
    obtain ⟨q, hq, rfl⟩ := List.mem_map.mp hms
    rfl
  · have := nodup_le (nodup_dedup (xs.map pl)) (m := u56) fun l hl => by
      rw [mem_dedup] at hl
      obtain ⟨p, hp, rfl⟩ := List.mem_map.mp hl
      have := h p hp
      unfold u56
      refine List.mem_filter.mpr ⟨List.mem_flatMap.mpr ⟨p.1.toNat, List.mem_range.mpr (by omega), List.mem_map.mpr ⟨p.2.toNat, List.mem_range.mpr (by omega), ?_⟩⟩, ?_⟩
      · unfold pl
        congr 1
        · omega
        · congr 1
          omega
      · simp [pl]
        omega
    exact Nat.le_trans this (by decide +kernel)
/-- sorted, each once -/
theorem sortT_pr (xs : List P2) : ∃ ss : List P2, sortT (xs.map pl) = ss.map pl ∧ ss.Pairwise ltP ∧ ∀ p, p ∈ ss ↔ p ∈ xs := by
  obtain ⟨ss, e, _⟩ := choose_list (g := pl) (Q := fun _ => True) (L := sortT (xs.map pl)) fun l hl => by
    rw [mem_sortT] at hl
    obtain ⟨p, hp, rfl⟩ := List.mem_map.mp hl
    exact ⟨p, trivial, rfl⟩
  have inj : ∀ {a b : P2}, pl a = pl b → a = b := fun {a b} h => by
    unfold pl at h
    simp at h
    exact Prod.ext h.1 h.2
  have hs := sortT_sorted (xs.map pl)
  have hn := sortT_nodup (xs.map pl)
  rw [← e] at hs hn
  refine ⟨ss, e.symm, ?_, fun p => ?_⟩
  · refine (List.pairwise_and_iff.mpr ⟨List.pairwise_map.mp hs, List.pairwise_map.mp hn⟩).imp fun {a b} ⟨h1, h2⟩ => ?_
    rw [leT_iff] at h1
    rcases h1 with h1 | h1
    · have := (lexI_P a b).symm.trans h1
      simpa using this
    · exact absurd h1 h2
  · have m : pl p ∈ sortT (xs.map pl) ↔ pl p ∈ xs.map pl := mem_sortT
    rw [← e] at m
    constructor
    · intro h
      obtain ⟨q, hq, e2⟩ := List.mem_map.mp (m.mp (List.mem_map.mpr ⟨p, h, rfl⟩))
      exact inj e2 ▸ hq
    · intro h
      obtain ⟨q, hq, e2⟩ := List.mem_map.mp (m.mpr (List.mem_map.mpr ⟨p, h, rfl⟩))
      exact inj e2 ▸ hq
theorem n_sortSet_pr {l : Ls} {ρ : En} {xs : List P2} (h : l ρ = .ok (xs.map prD) ρ) (u : Unl xs) : ∃ ss : List P2, nSortSet l ρ = .ok (ss.map prD) ρ ∧ ss.Pairwise ltP ∧ ∀ p, p ∈ ss ↔ p ∈ xs := by
  obtain ⟨ss, e, s1, s2⟩ := sortT_pr xs
  refine ⟨ss, ?_, s1, s2⟩
  rw [nSortSet_ap, h, Out.bind_ok, tupsOf_pr]
  show (if setOk (xs.map pl) = true then Out.ok ((sortT (xs.map pl)).map tupI) ρ else .stuck) = _
  rw [if_pos (setOk_un u), e, List.map_map]; rfl
def joinR (ps : List P2) : List P2 := ps ++ ps.flatMap fun p => (ps.filter fun q => decide (q.1 = p.2)).map fun q => (p.1, q.2)
theorem mem_joinR {ps : List P2} {x z : Int} : (x, z) ∈ joinR ps ↔ (x, z) ∈ ps ∨ ∃ y, (x, y) ∈ ps ∧ (y, z) ∈ ps := by
  unfold joinR
  rw [List.mem_append, List.mem_flatMap]
  constructor
  · rintro (h | ⟨p, hp, h⟩)
    · exact .inl h
    · obtain ⟨q, hq, e⟩ := List.mem_map.mp h
      rw [List.mem_filter] at hq
      cases e
      have e2 : q.1 = p.2 := by simpa using hq.2
      exact .inr ⟨p.2, hp, by rw [← e2]; exact hq.1⟩
  · rintro (h | ⟨y, h1, h2⟩)
    · exact .inl h
    · exact .inr ⟨(x, y), h1, List.mem_map.mpr ⟨(y, z), List.mem_filter.mpr ⟨h2, by simp⟩, rfl⟩⟩
theorem ltP_len {ps : List P2} (s : ps.Pairwise ltP) (u : Unl ps) : ps.length ≤ 256 := by
  have nd : ps.Nodup := s.imp fun {a b} h e => by subst e; unfold ltP at h; omega
  have := nodup_le (l := ps) (m := sq) nd fun p hp => by
    have := u p hp
    exact mem_sq (by omega) (by omega) (by omega) (by omega)
  exact Nat.le_trans this (by decide +kernel)
theorem e__law_joined {ps : List P2} (s : ps.Pairwise ltP) (u : Unl ps) (uj : Unl (joinR ps)) : ∃ ss : List P2, s__law_joined [.dat (.list (ps.map prD))] = .ret (.list (ss.map prD)) [] ∧ ss.Pairwise ltP ∧ ∀ p, p ∈ ss ↔ p ∈ joinR ps := by
  have hl := ltP_len s u
  have key : ∃ d, s__law_joined [.dat (.list (ps.map prD))] = .ret d [] ∧ ∃ ss : List P2, d = .list (ss.map prD) ∧ ss.Pairwise ltP ∧ ∀ p, p ∈ ss ↔ p ∈ joinR ps := by
    have h : Sat (b__law_joined [some (.dat (.list (ps.map prD))), none, none, none, none, none]) fun f _ => ∃ d, f = .ret d ∧ ∃ ss : List P2, d = .list (ss.map prD) ∧ ss.Pairwise ltP ∧ ∀ p, p ∈ ss ↔ p ∈ joinR ps := by
      refine sat_step (ρ1 := [some (.dat (.list (ps.map prD))), some (.own (ps.map prD)), none, none, none, none]) (by simp) (sat_seq ?_)
      refine sat_for (D := prD) (ys := ps) (fun pre ρ => ∃ j2 j3 j4 j5, Jk j4 ∧ Jk j5 ∧ ρ = [some (.dat (.list (ps.map prD))), some (.own ((ps ++ pre.flatMap fun p => (ps.filter fun q => decide (q.1 = p.2)).map fun q => (p.1, q.2)).map prD)), j2, j3, j4, j5]) (by simp) ⟨none, none, none, none, jk_none, jk_none, by simp⟩ ?_ ?_
      · rintro pre p post ρ e ⟨j2, j3, j4, j5, k4, k5, rfl⟩
        have lX : (ps ++ pre.flatMap fun p => (ps.filter fun q => decide (q.1 = p.2)).map fun q => (p.1, q.2)).length ≤ 100000 := by
          have h1 := flatMap_len (f := fun p : P2 => (ps.filter fun q => decide (q.1 = p.2)).map fun q => (p.1, q.2)) (k := 256) pre fun p _ => by
            rw [List.length_map]
            exact Nat.le_trans (List.length_filter_le _ _) hl
          have h2 : pre.length ≤ 256 := by rw [e] at hl; simp at hl; omega
          have h3 := Nat.le_trans h1 (Nat.mul_le_mul_right 256 h2)
          rw [List.length_append]
          omega
        have eX : (ps ++ (pre ++ [p]).flatMap fun p => (ps.filter fun q => decide (q.1 = p.2)).map fun q => (p.1, q.2)) = (ps ++ pre.flatMap fun p => (ps.filter fun q => decide (q.1 = p.2)).map fun q => (p.1, q.2)) ++ (ps.filter fun q => decide (q.1 = p.2)).map fun q => (p.1, q.2) := by simp
        rw [eX]
        generalize (ps ++ pre.flatMap fun p => (ps.filter fun q => decide (q.1 = p.2)).map fun q => (p.1, q.2)) = Y at lX ⊢
        refine sat_turn (ρ1 := [some (.dat (.list (ps.map prD))), some (.own (Y.map prD)), some (.dat (.int p.1)), some (.dat (.int p.2)), j4, j5]) (by simp [prD]) ?_
        refine ⟨_, _, ?_, rfl, some (.dat (.int p.1)), some (.dat (.int p.2)), j4, j5, k4, k5, rfl⟩
        simp only [sExt_ap, lV_ap, cN_ap]
        simp only [List.getElem?_cons_succ, List.getElem?_cons_zero, Out.bind_ok]
        rw [nLc_if (D := prD) (p := fun q => decide (q.1 = p.2)) (E := fun q => prD (p.1, q.2)) (ys := ps) (by simp) (by simp [k4, k5]) (fun q hq => by
          by_cases h : q.1 = p.2 <;> simp [prD, h]) (by omega)]
        simp only [Out.bind_ok, List.getElem?_cons_succ, List.getElem?_cons_zero]
        have := List.length_filter_le (fun q : P2 => decide (q.1 = p.2)) ps
        rw [if_pos (by simp only [List.length_map, maxSeq]; omega)]
        simp
      · rintro ρ' ⟨j2, j3, j4, j5, _, _, rfl⟩
        obtain ⟨ss, e, s1, s2⟩ := n_sortSet_pr (l := lV 1) (ρ := [some (.dat (.list (ps.map prD))), some (.own ((joinR ps).map prD)), j2, j3, j4, j5]) (xs := joinR ps) (by simp) uj
        exact ⟨rfl, _, _, ret_ap (c_N e), _, rfl, ss, rfl, s1, s2⟩
    obtain ⟨f, ρ, e, d, rfl, r⟩ := h
    exact ⟨d, ret_of e, r⟩
  obtain ⟨d, e, ss, rfl, r⟩ := key
  exact ⟨ss, e, r⟩
end Mo.K70
end
section
set_option autoImplicit false
set_option linter.all false
/-! V10: orders that the law draws. -/
namespace Mo.K70
open PySem Mo Mo.Or
/-! ### closing, its end -/
inductive Path (R : List P2) : Nat → Int → Int → Prop
  | one {x y : Int} (h : (x, y) ∈ R) : Path R 1 x y
  | step {m : Nat} {x y z : Int} (h : (x, y) ∈ R) (p : Path R m y z) : Path R (m + 1) x z
theorem Path.app {R : List P2} {m : Nat} {x y : Int} (h : Path R m x y) : ∀ {l : Nat} {z : Int}, Path R l y z → ∃ k, Path R k x z := by
  induction h with
  | one h => exact fun p => ⟨_, .step h p⟩
  | step h _ ih => exact fun p => let ⟨k, q⟩ := ih p; ⟨_, .step h q⟩
/-- pairs lead on: works of n, each ahead in a row -/
structure Leads (n : Int) (pos : Int → Nat) (ps : List P2) : Prop where
  inn : ∀ p ∈ ps, 0 ≤ p.1 ∧ p.1 < n ∧ 0 ≤ p.2 ∧ p.2 < n
  up : ∀ p ∈ ps, pos p.1 < pos p.2
theorem Leads.unl {n : Int} {pos : Int → Nat} {ps : List P2} (h : Leads n pos ps) (h8 : n ≤ 8) : Unl ps := fun p hp => by
  have := h.inn p hp
  have u := h.up p hp
  exact ⟨by omega, by omega, by omega, by omega, fun e => by rw [e] at u; omega⟩
theorem Leads.join {n : Int} {pos : Int → Nat} {ps : List P2} (h : Leads n pos ps) : Leads n pos (joinR ps) := by
  constructor
  · rintro ⟨x, z⟩ hp
    rcases mem_joinR.mp hp with hp | ⟨y, h1, h2⟩
    · exact h.inn _ hp
    · exact ⟨(h.inn _ h1).1, (h.inn _ h1).2.1, (h.inn _ h2).2.2⟩
  · rintro ⟨x, z⟩ hp
    rcases mem_joinR.mp hp with hp | ⟨y, h1, h2⟩
    · exact h.up _ hp
    · have a := h.up _ h1
      have b := h.up _ h2
      simp only at a b ⊢
      omega
theorem Leads.congr {n : Int} {pos : Int → Nat} {ps qs : List P2} (h : Leads n pos ps) (e : ∀ p, p ∈ qs ↔ p ∈ ps) : Leads n pos qs := ⟨fun p hp => h.inn p ((e p).mp hp), fun p hp => h.up p ((e p).mp hp)⟩
theorem Path.pos {n : Int} {pos : Int → Nat} {R : List P2} (h : Leads n pos R) {m : Nat} {x y : Int} (p : Path R m x y) : pos x + m ≤ pos y := by
  induction p with
  | one hp => have := h.up _ hp; simp only at this; omega
  | step hp _ ih => have := h.up _ hp; simp only at this; omega
/-- k rounds of joining -/
structure Joined (R : List P2) (k : Nat) (S : List P2) : Prop where
  srt : S.Pairwise ltP
  sub : ∀ {x y : Int}, (x, y) ∈ S → ∃ m, Path R m x y
  all : ∀ {m : Nat} {x y : Int}, Path R m x y → m ≤ k + 1 → (x, y) ∈ S
theorem Joined.step {R : List P2} {k : Nat} {S T : List P2} (h : Joined R k S) (ht : T.Pairwise ltP) (e : ∀ p, p ∈ T ↔ p ∈ joinR S) : Joined R (k + 1) T where
  srt := ht
  sub {x y} hp := by
    rcases mem_joinR.mp ((e _).mp hp) with hp | ⟨z, h1, h2⟩
    · exact h.sub hp
    · obtain ⟨m1, p1⟩ := h.sub h1
      obtain ⟨m2, p2⟩ := h.sub h2
      exact p1.app p2
  all {m x y} p hm := by
    rw [e, mem_joinR]
    cases p with
    | one hp => exact .inl (h.all (.one hp) (by omega))
    | @step m _ z _ hp p =>
      by_cases c : m + 1 ≤ k + 1
      · exact .inl (h.all (.step hp p) c)
      · exact .inr ⟨z, h.all (.one hp) (by omega), h.all p (by omega)⟩
theorem Joined.leads {n : Int} {pos : Int → Nat} {R S : List P2} {k : Nat} (h : Joined R k S) (l : Leads n pos R) : Leads n pos S := by
  have inn : ∀ {m : Nat} {x y : Int}, Path R m x y → (0 ≤ x ∧ x < n ∧ 0 ≤ y ∧ y < n) := fun p => by
    induction p with
    | one hp => exact l.inn _ hp
    | step hp _ ih => have := l.inn _ hp; exact ⟨this.1, this.2.1, ih.2.2⟩
  constructor
  · rintro ⟨x, y⟩ hp
    obtain ⟨m, p⟩ := h.sub hp
    exact inn p
  · rintro ⟨x, y⟩ hp
    obtain ⟨m, p⟩ := h.sub hp
    have := p.pos l
    have hm : 1 ≤ m := by cases p <;> omega
    simp only
    omega
theorem Joined.ord {n : Int} {pos : Int → Nat} {R S : List P2} (h : Joined R n.toNat S) (l : Leads n pos R) (hpos : ∀ x, 0 ≤ x → x < n → pos x < n.toNat) (n1 : 1 ≤ n) (n16 : n ≤ 16) : Ord n S := by
  have ls := h.leads l
  refine ⟨n1, n16, ls.inn, h.srt, ⟨fun x => ?_, fun x y z h1 h2 => ?_⟩⟩
  · unfold rl
    rw [decide_eq_false_iff_not]
    intro hm
    have := ls.up _ hm
    simp only at this
    omega
  · unfold rl at h1 h2 ⊢
    rw [decide_eq_true_eq] at h1 h2 ⊢
    obtain ⟨m1, p1⟩ := h.sub h1
    obtain ⟨m2, p2⟩ := h.sub h2
    obtain ⟨m, p⟩ := p1.app p2
    have hz := (ls.inn _ h2)
    have := p.pos l
    have := hpos z hz.2.2.1 hz.2.2.2
    exact h.all p (by omega)
theorem e__law_closed {n : Int} {pos : Int → Nat} {R : List P2} (l : Leads n pos R) (n1 : 1 ≤ n) (h8 : n ≤ 8) (hpos : ∀ x, 0 ≤ x → x < n → pos x < n.toNat) (hl : R.length ≤ 1000) : ∃ S : List P2, s__law_closed [.dat (.int n), .dat (.list (R.map prD))] = .ret (.tuple (S.map prD)) [] ∧ Ord n S := by
  have key : ∃ d, s__law_closed [.dat (.int n), .dat (.list (R.map prD))] = .ret d [] ∧ ∃ S : List P2, d = .tuple (S.map prD) ∧ Ord n S := by
    have h : Sat (b__law_closed [some (.dat (.int n)), some (.dat (.list (R.map prD))), none, none]) fun f _ => ∃ d, f = .ret d ∧ ∃ S : List P2, d = .tuple (S.map prD) ∧ Ord n S := by
      obtain ⟨S0, e0, s0, m0⟩ := n_sortSet_pr (l := lDl (cV 1)) (ρ := [some (.dat (.int n)), some (.dat (.list (R.map prD))), none, none]) (xs := R) (by simp) (l.unl h8)
      have J0 : Joined R 0 S0 := ⟨s0, fun h => ⟨1, .one ((m0 _).mp h)⟩, fun p hm => by
        cases p with
        | one h => exact (m0 _).mpr h
        | step h p => cases p <;> omega⟩
      refine sat_step (ρ1 := [some (.dat (.int n)), some (.dat (.list (R.map prD))), some (.dat (.list (S0.map prD))), none]) (by rw [sSet_ap, rD_ap, cN_ap, e0]; rfl) (sat_seq ?_)
      refine sat_for (D := PyData.int) (ys := iota n) (fun pre ρ => ∃ S j, Joined R pre.length S ∧ ρ = [some (.dat (.int n)), some (.dat (.list (R.map prD))), some (.dat (.list (S.map prD))), j]) (iRg1_at (by simp) (by omega) (by omega)) ⟨S0, none, J0, rfl⟩ ?_ ?_
      · rintro pre x post ρ e ⟨S, j, J, rfl⟩
        have ls := J.leads l
        obtain ⟨T, eT, sT, mT⟩ := e__law_joined J.srt (ls.unl h8) (ls.join.unl h8)
        refine ⟨.nx, [some (.dat (.int n)), some (.dat (.list (R.map prD))), some (.dat (.list (T.map prD))), some (.dat (.int x))], by simp [eT], rfl, T, _, ?_, rfl⟩
        rw [List.length_append, List.length_singleton]
        exact J.step sT mT
      · rintro ρ' ⟨S, j, J, rfl⟩
        rw [iota_len] at J
        exact ⟨rfl, _, _, ret_ap (c_tuple (l_D (d := .list (S.map prD)) (by simp) rfl)), _, rfl, S, rfl, J.ord l hpos n1 (by omega)⟩
    obtain ⟨f, ρ, e, d, rfl, r⟩ := h
    exact ⟨d, ret_of e, r⟩
  obtain ⟨d, e, S, rfl, r⟩ := key
  exact ⟨S, e, r⟩

/-! ### pairs drawn along a row -/
theorem lcGo_st {β : Type} {E : β → PyData} {I : En → Prop} {Q : β → Prop} {g : Tg} {t : Ts} {e : Ex} {vs : List Nat} : ∀ {xs acc : List PyData} {ρ : En}, acc.length + xs.length ≤ 16777216 → I ρ → (∀ x ∈ xs, ∀ ρ, I ρ → ∃ (o : Option β) (ρ' : En), lcStep g t e vs x ρ = .ok (o.map E) ρ' ∧ I ρ' ∧ ∀ b, o = some b → Q b) →
    ∃ (out : List β) (ρ' : En), lcGo g t e vs xs acc ρ = .ok (acc ++ out.map E) ρ' ∧ I ρ' ∧ (∀ b ∈ out, Q b) ∧ out.length ≤ xs.length
  | [], acc, ρ, _, hI, _ => ⟨[], ρ, by simp [lcGo], hI, (fun _ h => nomatch h), Nat.le_refl _⟩
  | x :: xs, acc, ρ, hl, hI, h => by
    obtain ⟨o, ρ1, e1, I1, q1⟩ := h x (.head _) ρ hI
    rw [lcGo_cons _ _ _ _ _ _ _ _ (by simp only [List.length_cons, maxSeq] at *; omega), e1, Out.bind_ok]
    have lo : (o.map E).toList.length ≤ 1 := by cases o <;> simp
    obtain ⟨out, ρ2, e2, I2, q2, l2⟩ := lcGo_st (acc := acc ++ (o.map E).toList) (by simp only [List.length_append, List.length_cons] at *; omega) I1 fun z hz => h z (.tail _ hz)
    cases o with
    | none => exact ⟨out, ρ2, by rw [e2]; simp, I2, q2, by simp only [List.length_cons]; omega⟩
    | some b =>
      refine ⟨b :: out, ρ2, by rw [e2]; simp, I2, fun c hc => ?_, by simp only [List.length_cons]; omega⟩
      rcases List.mem_cons.mp hc with rfl | hc
      · exact q1 c rfl
      · exact q2 c hc
@[simp] theorem iRg2_ap (f g : Ex) (ρ : En) : iRg2 f g ρ = (f ρ).bind fun c ρ => (g ρ).bind fun d ρ => match c, d with | .int i, .int j => if big62 i && big62 j then .ok (rng i j) ρ else .stuck | _, _ => .stuck := rfl
theorem mem_rng {i j : Int} {x : PyData} (h : x ∈ rng i j) : ∃ k : Int, x = .int k ∧ i ≤ k ∧ k < j := by
  unfold rng at h
  obtain ⟨k, hk, rfl⟩ := List.mem_map.mp h
  have := List.mem_range.mp hk
  exact ⟨_, rfl, by omega, by omega⟩
theorem rng_len (i j : Int) : (rng i j).length = (j - i).toNat := by unfold rng; simp
theorem row_pos {row : List Int} {n : Int} (pm : row.Perm (iota n)) : ∀ x, 0 ≤ x → x < n → row.idxOf x < n.toNat := fun x h1 h2 => by
  have : x ∈ row := pm.mem_iff.mpr (mem_iota.mpr ⟨h1, h2⟩)
  have := List.idxOf_lt_length_of_mem this
  rw [pm.length_eq, iota_len] at this
  exact this
theorem c_callP {n i : Nat} {f : Fs} {as : As} {ρ : En} {xs : List PyData} {svs : List SV} {d : PyData} {ys : List PyData} (h : ρ[i]? = some (some (.own xs))) (ha : as ρ = .ok svs ρ) (hn : svs.length = n) (hf : f (.own xs :: svs) = .ret d ys) : cCallP n f i as ρ = .ok d (ρ.set i (some (.own ys))) := by
  rw [cCallP_ap, lV_ap, h]
  (try dsimp only)
  rw [Out.bind_ok, ha, Out.bind_ok, lV_ap, h]
  (try dsimp only)
  rw [Out.bind_ok, if_pos hn, hf]
theorem c_callP' {n i : Nat} {f : Fs} {as : As} {ρ ρ1 : En} {xs0 xs : List PyData} {svs : List SV} {d : PyData} {ys : List PyData} (h : ρ[i]? = some (some (.own xs0))) (ha : as ρ = .ok svs ρ1) (h1 : ρ1[i]? = some (some (.own xs))) (hn : svs.length = n) (hf : f (.own xs :: svs) = .ret d ys) : cCallP n f i as ρ = .ok d (ρ1.set i (some (.own ys))) := by
  rw [cCallP_ap, lV_ap, h]
  (try dsimp only)
  rw [Out.bind_ok, ha, Out.bind_ok, lV_ap, h1]
  (try dsimp only)
  rw [Out.bind_ok, if_pos hn, hf]
theorem e__law_order {xs : List PyData} (h : PotOk xs) {most part : Int} (m1 : 1 ≤ most) (m8 : most ≤ 8) (p1 : 1 ≤ part) (p2 : part ≤ 100) :
    ∃ (n : Int) (S : List P2) (z : PyData) (ys : List PyData), s__law_order [.own xs, .dat (.int most), .dat (.int part)] = .ret (.tuple [ordD n S, z]) ys ∧ Ord n S ∧ n ≤ 8 ∧ PotOk ys := by
  have key : ∃ d ys, bodyOf b__law_order 5 true [.own xs, .dat (.int most), .dat (.int part)] = .ret d ys ∧ (∃ n S z, d = .tuple [ordD n S, z] ∧ Ord n S ∧ n ≤ 8) ∧ PotOk ys := by
    refine retP_sat (R := fun d ys => (∃ n S z, d = .tuple [ordD n S, z] ∧ Ord n S ∧ n ≤ 8) ∧ PotOk ys) ?_
    obtain ⟨d0, pot1, e0, a0, b0, hp1⟩ := e__law_draw h m1 (by omega)
    have n1 : 1 ≤ 1 + d0 := by omega
    have n8 : 1 + d0 ≤ 8 := by omega
    generalize hn : 1 + d0 = n at n1 n8
    obtain ⟨row, pot2, e1, pm, hp2⟩ := e__law_shuffled (D := PyData.int) fine_int hp1 (iota n) (by rw [iota_len]; omega)
    have rl' : (row.length : Int) = n := by rw [pm.length_eq, iota_len]; omega
    have rnd : row.Nodup := pm.nodup_iff.mpr (iota_nodup n)
    refine sat_step (ρ1 := [some (.own pot1), some (.dat (.int most)), some (.dat (.int part)), some (.dat (.int n)), none, none, none, none]) (by simp [e0, hn]) (sat_step (ρ1 := [some (.own pot2), some (.dat (.int most)), some (.dat (.int part)), some (.dat (.int n)), some (.dat (.list (row.map .int))), some (.own []), none, none]) ?_ (sat_seq ?_))
    · have e2 : nRg1 (cV 3) [some (.own pot1), some (.dat (.int most)), some (.dat (.int part)), some (.dat (.int n)), none, none, none, none] = .ok ((iota n).map .int) [some (.own pot1), some (.dat (.int most)), some (.dat (.int part)), some (.dat (.int n)), none, none, none, none] := nRg1_at (by simp) (by omega) (by omega)
      rw [sPar_ap, rD_ap, c_callP (n := 1) (i := 0) rfl (a_D (c_N e2) (aNil_ap _)) rfl e1]
      simp
    · refine sat_for (D := PyData.int) (ys := iota n) (fun pre ρ => ∃ (pot : List PyData) (R : List P2) (j6 j7 : Option SV), PotOk pot ∧ Jk j7 ∧ (∀ p ∈ R, ∃ i j : Nat, i < j ∧ row[i]? = some p.1 ∧ row[j]? = some p.2) ∧ R.length ≤ pre.length * 8 ∧ ρ = [some (.own pot), some (.dat (.int most)), some (.dat (.int part)), some (.dat (.int n)), some (.dat (.list (row.map .int))), some (.own (R.map prD)), j6, j7]) (iRg1_at (by simp) (by omega) (by omega)) ⟨pot2, [], none, none, hp2, jk_none, (fun _ h => nomatch h), Nat.zero_le _, rfl⟩ ?_ ?_
      · rintro pre i post ρ e ⟨pot, R, j6, j7, hpot, k7, hR, lR, rfl⟩
        have hi : i ∈ iota n := by rw [e]; simp
        have hi2 := mem_iota.mp hi
        have lpre : pre.length ≤ 8 := by
          have := congrArg List.length e
          rw [iota_len] at this
          simp at this
          omega
        obtain ⟨x, hx⟩ : ∃ x, row[i.toNat]? = some x := ⟨row[i.toNat]'(by omega), List.getElem?_eq_getElem _⟩
        have ox : opIx (.list (row.map .int)) (.int i) = some (.int x) := opIx_l (n := i.toNat) (by omega) (by rw [List.getElem?_map, hx]; rfl)
        refine sat_turn (ρ1 := [some (.own pot), some (.dat (.int most)), some (.dat (.int part)), some (.dat (.int n)), some (.dat (.list (row.map .int))), some (.own (R.map prD)), some (.dat (.int i)), j7]) (by simp) ?_
        -- the comprehension
        obtain ⟨out, ρ2, eo, ⟨pot3, hp3, rfl⟩, qo, lo⟩ := lcGo_st (E := prD) (I := fun ρ => ∃ pot, PotOk pot ∧ ρ = [some (.own pot), some (.dat (.int most)), some (.dat (.int part)), some (.dat (.int n)), some (.dat (.list (row.map .int))), some (.own (R.map prD)), some (.dat (.int i)), none]) (Q := fun p : P2 => ∃ i j : Nat, i < j ∧ row[i]? = some p.1 ∧ row[j]? = some p.2) (g := gN 7) (t := tD (cBin opEq (cCallP 1 s__law_draw 0 (aD (cV 2) (aNil))) (cK (.int 0)))) (e := cTup (dCons (cBin opIx (cV 4) (cV 6)) (dCons (cBin opIx (cV 4) (cV 7)) (dNil)))) (vs := [7]) (xs := rng (i + 1) n) (acc := []) (ρ := [some (.own pot), some (.dat (.int most)), some (.dat (.int part)), some (.dat (.int n)), some (.dat (.list (row.map .int))), some (.own (R.map prD)), some (.dat (.int i)), none]) (by rw [rng_len]; simp; omega) ⟨pot, hpot, rfl⟩ (by
          rintro z hz ρ ⟨pot, hpot, rfl⟩
          obtain ⟨j, rfl, j1, j2⟩ := mem_rng hz
          obtain ⟨d, pot', ed, d1, d2, hp'⟩ := e__law_draw hpot p1 (by omega)
          obtain ⟨y, hy⟩ : ∃ y, row[j.toNat]? = some y := ⟨row[j.toNat]'(by omega), List.getElem?_eq_getElem _⟩
          have oy : opIx (.list (row.map .int)) (.int j) = some (.int y) := opIx_l (n := j.toNat) (by omega) (by rw [List.getElem?_map, hy]; rfl)
          by_cases c : d = 0
          · refine ⟨some (x, y), [some (.own pot'), some (.dat (.int most)), some (.dat (.int part)), some (.dat (.int n)), some (.dat (.list (row.map .int))), some (.own (R.map prD)), some (.dat (.int i)), none], ?_, ⟨pot', hp', rfl⟩, fun b hb => ?_⟩
            · simp [ed, c, ox, oy, prD]
            · cases hb
              exact ⟨i.toNat, j.toNat, by omega, hx, hy⟩
          · refine ⟨none, [some (.own pot'), some (.dat (.int most)), some (.dat (.int part)), some (.dat (.int n)), some (.dat (.list (row.map .int))), some (.own (R.map prD)), some (.dat (.int i)), none], ?_, ⟨pot', hp', rfl⟩, fun b hb => by cases hb⟩
            simp [ed, c])
        rw [rng_len] at lo
        have eL : nLc (iRg2 (cBin opAdd (cV 6) (cK (.int 1))) (cV 3)) (gN 7) (tD (cBin opEq (cCallP 1 s__law_draw 0 (aD (cV 2) (aNil))) (cK (.int 0)))) (cTup (dCons (cBin opIx (cV 4) (cV 6)) (dCons (cBin opIx (cV 4) (cV 7)) (dNil)))) [7] [some (.own pot), some (.dat (.int most)), some (.dat (.int part)), some (.dat (.int n)), some (.dat (.list (row.map .int))), some (.own (R.map prD)), some (.dat (.int i)), j7] = .ok (out.map prD) (backE [some (.own pot), some (.dat (.int most)), some (.dat (.int part)), some (.dat (.int n)), some (.dat (.list (row.map .int))), some (.own (R.map prD)), some (.dat (.int i)), j7] [some (.own pot3), some (.dat (.int most)), some (.dat (.int part)), some (.dat (.int n)), some (.dat (.list (row.map .int))), some (.own (R.map prD)), some (.dat (.int i)), none] [7]) := by
          unfold nLc
          have b1 := big62_of (n := i + 1) (by omega) (by omega)
          have b2 := big62_of (n := n) (by omega) (by omega)
          simp only [iRg2_ap, cBin_ap, cV_ap, cK_ap]
          simp only [List.getElem?_cons_succ, List.getElem?_cons_zero, Out.bind_ok, opAdd_i, lift_some, b1, b2, Bool.and_self, if_true]
          simp only [wipeE_cons, wipeE_nil, List.set_cons_succ, List.set_cons_zero]
          rw [eo]
          simp
        refine ⟨.nx, [some (.own pot3), some (.dat (.int most)), some (.dat (.int part)), some (.dat (.int n)), some (.dat (.list (row.map .int))), some (.own ((R ++ out).map prD)), some (.dat (.int i)), j7], ?_, rfl, pot3, R ++ out, some (.dat (.int i)), j7, hp3, k7, fun p hp => ?_, ?_, rfl⟩
        · simp only [sExt_ap, lV_ap, cN_ap]
          simp only [List.getElem?_cons_succ, List.getElem?_cons_zero, Out.bind_ok]
          show ((nLc (iRg2 (cBin opAdd (cV 6) (cK (.int 1))) (cV 3)) (gN 7) (tD (cBin opEq (cCallP 1 s__law_draw 0 (aD (cV 2) (aNil))) (cK (.int 0)))) (cTup (dCons (cBin opIx (cV 4) (cV 6)) (dCons (cBin opIx (cV 4) (cV 7)) (dNil)))) [7] _).bind _).bind _ = _
          rw [eL]
          have lo2 : out.length ≤ 8 := by omega
          cases j7 with
          | none => simp [maxSeq]; omega
          | some sv =>
            cases sv with
            | dat d => simp [maxSeq]; omega
            | _ => exact absurd k7 id
        · rcases List.mem_append.mp hp with hp | hp
          · exact hR p hp
          · exact qo p hp
        · rw [List.length_append, List.length_append, List.length_singleton]
          omega
      · rintro ρ' ⟨pot, R, j6, j7, hpot, k7, hR, lR, rfl⟩
        rw [iota_len] at lR
        have ld : Leads n (fun x => row.idxOf x) R := by
          constructor
          · intro p hp
            obtain ⟨i, j, hij, h1, h2⟩ := hR p hp
            have a1 := mem_iota.mp (pm.mem_iff.mp (List.mem_of_getElem? h1))
            have a2 := mem_iota.mp (pm.mem_iff.mp (List.mem_of_getElem? h2))
            exact ⟨a1.1, a1.2, a2.1, a2.2⟩
          · intro p hp
            obtain ⟨i, j, hij, h1, h2⟩ := hR p hp
            have i1 : row.idxOf p.1 = i := by
              obtain ⟨hl, e⟩ := List.getElem?_eq_some_iff.mp h1
              rw [← e]; exact rnd.idxOf_getElem i hl
            have i2 : row.idxOf p.2 = j := by
              obtain ⟨hl, e⟩ := List.getElem?_eq_some_iff.mp h2
              rw [← e]; exact rnd.idxOf_getElem j hl
            show row.idxOf p.1 < row.idxOf p.2
            rw [i1, i2]; exact hij
        obtain ⟨S, eS, oS⟩ := e__law_closed ld n1 n8 (row_pos pm) (by omega)
        obtain ⟨out, pot4, e4, _, hp4⟩ := e__law_shuffled (D := prD) wr_pr.fine hpot R (by omega)
        refine ⟨rfl, .ret (.tuple [ordD n S, .list (out.map prD)]), [some (.own pot4), some (.dat (.int most)), some (.dat (.int part)), some (.dat (.int n)), some (.dat (.list (row.map .int))), some (.dat (.list (R.map prD))), j6, j7], ?_, _, pot4, _, rfl, rfl, ⟨n, S, _, rfl, oS, n8⟩, hp4⟩
        simp [eS, e4, ordD]
  obtain ⟨d, ys, e, ⟨n, S, z, rfl, o, n8⟩, hy⟩ := key
  exact ⟨n, S, z, ys, e, o, n8, hy⟩

/-! ### works put behind and beside -/
/-- unlike words one in another -/
inductive Alt : Nd → Prop
  | work (k : Int) : Alt (.work k)
  | comp (b : Bool) (ps : List Nd) (n : 2 ≤ ps.length) (h : ∀ p ∈ ps, Alt p) (w : ∀ p ∈ ps, p.isC b = false) : Alt (.comp b ps)
theorem alt_full {p : Nd} (h : Alt p) : Full p := by
  induction h with
  | work k => exact .work k
  | comp b ps n h w ih => exact .comp b ps n ih
theorem lf_isC (b : Bool) (p : Nd) : (lf p).isC b = p.isC b := by cases p <;> rfl
theorem least_perm {p q : Nd} (h : p.works.Perm q.works) (nd : q.works.Nodup) : p.least = q.least := by
  unfold Nd.least
  rw [srt_eq (srt_lt nd) (h.trans (srt_perm _).symm)]
theorem lf_canon {p : Nd} (h : Alt p) : p.works.Nodup → Canon (lf p) := by
  induction h with
  | work k => exact fun _ => .work k
  | comp b ps n h w ih =>
    intro nd
    have hp := nodup_parts nd
    rw [lf_comp]
    have pm := lfB_perm b ps
    refine .comp b _ (by rw [pm.length_eq, List.length_map]; exact n) (fun q hq => ?_) (fun q hq => ?_) fun hb => ?_
    · obtain ⟨p, hp', rfl⟩ := List.mem_map.mp (pm.subset hq)
      exact ih p hp' (hp.2 p hp')
    · obtain ⟨p, hp', rfl⟩ := List.mem_map.mp (pm.subset hq)
      rw [lf_isC]; exact w p hp'
    · subst hb
      have pw := sortN_pw (ps.map lf)
      -- least works are unlike
      have un : (ps.map lf).Pairwise fun p q => p.least ≠ q.least := by
        refine List.pairwise_map.mpr (hp.1.imp_of_mem fun {p q} mp mq h e => ?_)
        have np := hp.2 p mp
        have nq := hp.2 q mq
        rw [least_perm (lf_works p) np, least_perm (lf_works q) nq] at e
        have l1 := headD_mem (show srt p.works ≠ [] from fun z => by
          have := srt_len p.works
          rw [z] at this
          exact (alt_full (h := ‹∀ p ∈ ps, Alt p› p mp)).ne (List.length_eq_zero_iff.mp this.symm))
        have l2 := headD_mem (show srt q.works ≠ [] from fun z => by
          have := srt_len q.works
          rw [z] at this
          exact (alt_full (h := ‹∀ p ∈ ps, Alt p› q mq)).ne (List.length_eq_zero_iff.mp this.symm))
        exact h _ (mem_srt.mp l1) _ (mem_srt.mp l2) e
      have un2 : (sortN (ps.map lf)).Pairwise fun p q => p.least ≠ q.least := (sortN_perm _).symm.pairwise un (fun {x y} h e => h e.symm)
      exact (List.pairwise_and_iff.mpr ⟨pw, un2⟩).imp fun {a b} ⟨h1, h2⟩ => by omega
theorem cut_to (xs : List PyData) (k : Nat) : cut xs none (some (k : Int)) = xs.take k := by
  have e1 : sIx xs.length xs.length (some (k : Int)) = min k xs.length := by
    show (if (k : Int) < 0 then ((k : Int) + (xs.length : Int)).toNat else min (k : Int).toNat xs.length) = _
    rw [if_neg (by omega)]; simp
  have e2 : sIx xs.length 0 none = 0 := rfl
  unfold cut
  rw [e1, e2, List.drop_zero, Nat.sub_zero]
  by_cases h : k ≤ xs.length
  · rw [Nat.min_eq_left h]
  · rw [Nat.min_eq_right (by omega), List.take_of_length_le (Nat.le_refl _), List.take_of_length_le (by omega)]
theorem word_not (b : Bool) : wordS (!b) = if b then "beside" else "behind" := by cases b <;> rfl
theorem e__law_node : ∀ (f : Nat) (ws : List Int) (b : Bool) (xs : List PyData), PotOk xs → 1 ≤ ws.length → ws.length ≤ f → ws.length ≤ 1000 →
    ∃ (p : Nd) (ys : List PyData), s__law_node f [.own xs, .dat (lstD ws), .dat (.str (wordS b))] = .ret (nd p) ys ∧ PotOk ys ∧ p.works = ws ∧ Alt p ∧ p.isC (!b) = false
  | 0, ws, _, _, _, h1, h2, _ => absurd h1 (by omega)
  | f + 1, ws, b, xs, h, h1, h2, h3 => by
    by_cases c : ws.length = 1
    · match ws, c with
      | [k], _ =>
        refine ⟨.work k, xs, ?_, h, rfl, .work k, rfl⟩
        show bodyOf (b__law_node (s__law_node f)) 4 true [.own xs, .dat (lstD [k]), .dat (.str (wordS b))] = _
        exact retP_of (ρ := [some (.dat (lstD [k])), some (.dat (.str (wordS b))), none, none, none, none]) (seq_ret (if_yes (ρ1 := [some (.own xs), some (.dat (lstD [k])), some (.dat (.str (wordS b))), none, none, none, none]) (by simp) (ret_ap (by simp [nd_work, show opIx (lstD [k]) (.int 0) = some (.int k) from rfl]))))
    have l2 : 2 ≤ ws.length := by omega
    have c' : ¬ ((ws.length : Int) = 1) := by omega
    have key : ∃ d ys, bodyOf (b__law_node (s__law_node f)) 4 true [.own xs, .dat (lstD ws), .dat (.str (wordS b))] = .ret d ys ∧ (∃ ps : List Nd, d = nd (.comp b ps) ∧ worksL ps = ws ∧ Alt (.comp b ps)) ∧ PotOk ys := by
      refine retP_sat (R := fun d ys => (∃ ps : List Nd, d = nd (.comp b ps) ∧ worksL ps = ws ∧ Alt (.comp b ps)) ∧ PotOk ys) ?_
      refine sat_step (ρ1 := [some (.own xs), some (.dat (lstD ws)), some (.dat (.str (wordS b))), none, none, none, none]) (by simp [c']) (sat_step (ρ1 := [some (.own xs), some (.dat (lstD ws)), some (.dat (.str (wordS b))), some (.dat (.str (wordS (!b)))), none, none, none]) ?_ (sat_step (ρ1 := [some (.own xs), some (.dat (lstD ws)), some (.dat (.str (wordS b))), some (.dat (.str (wordS (!b)))), some (.own []), some (.dat (lstD ws)), none]) (by simp) (sat_seq ?_)))
      · cases b <;> simp [wordS]
      refine sat_while (fun m ρ => ∃ (left : List Int) (ps : List Nd) (pot : List PyData) (j6 : Option SV), m = left.length ∧ PotOk pot ∧ worksL ps ++ left = ws ∧ (∀ p ∈ ps, Alt p ∧ p.isC b = false ∧ p.works.length + 1 ≤ ws.length) ∧ ρ = [some (.own pot), some (.dat (lstD ws)), some (.dat (.str (wordS b))), some (.dat (.str (wordS (!b)))), some (.own (ps.map nd)), some (.dat (lstD left)), j6]) ws.length (by omega) ⟨ws, [], xs, none, rfl, h, rfl, (fun _ h => nomatch h), rfl⟩ ?_
      rintro m ρ ⟨left, ps, pot, j6, rfl, hp, hw, hps, rfl⟩
      have lw : (worksL ps).length + left.length = ws.length := by rw [← hw, List.length_append]
      have lps : ps.length ≤ (worksL ps).length := by
        refine (worksL_len fun p hp => ?_).1
        exact (alt_full (hps p hp).1).ne
      refine ⟨!left.isEmpty, _, t_D (c_bin (x := lstD left) (by simp) (y := .list []) (by simp) ?_), fun hc => ?_, fun hc => ?_⟩
      · rw [opNe_nil (fine_lstD left)]
        cases left <;> rfl
      · have : left = [] := by cases left with
          | nil => rfl
          | cons a r => cases hc
        subst this
        have hw' : worksL ps = ws := by simpa using hw
        refine ⟨rfl, .ret (nd (.comp b ps)), [some (.own pot), some (.dat (lstD ws)), some (.dat (.str (wordS b))), some (.dat (.str (wordS (!b)))), some (.own (ps.map nd)), some (.dat (lstD [])), j6], ?_, _, pot, _, rfl, rfl, ⟨ps, rfl, hw', .comp b ps ?_ (fun p hp => (hps p hp).1) (fun p hp => (hps p hp).2.1)⟩, hp⟩
        · rw [nd_comp]; simp
        · match ps, hps, hw' with
          | [], _, hw' => rw [← hw'] at l2; simp [worksL] at l2
          | [p], hps, hw' =>
            have := (hps p (.head _)).2.2
            rw [← hw'] at this
            simp [worksL] at this
            omega
          | _ :: _ :: _, _, _ => simp
      · have ll : 1 ≤ left.length := by
          cases left with
          | nil => cases hc
          | cons a r => simp
        -- the size
        let mo : Int := if (1 : Int) < (if (ws.length : Int) - 1 < (left.length : Int) then (ws.length : Int) - 1 else (left.length : Int)) then (if (ws.length : Int) - 1 < (left.length : Int) then (ws.length : Int) - 1 else (left.length : Int)) else 1
        have mo1 : (1 : Int) ≤ mo ∧ mo ≤ (left.length : Int) ∧ mo ≤ (ws.length : Int) - 1 := by
          simp only [mo]
          split <;> split <;> omega
        have emo : ∀ ρ : En, lift (opMax2 (.int 1) (.int (if (ws.length : Int) - 1 < (left.length : Int) then (ws.length : Int) - 1 else (left.length : Int)))) ρ = .ok (.int mo) ρ := fun ρ => rfl
        obtain ⟨d, pot1, e1, d1, d2, hp1⟩ := e__law_draw hp (many := mo) mo1.1 (by omega)
        have hk : ∃ k : Nat, (1 + d) = (k : Int) ∧ 1 ≤ k ∧ k ≤ left.length ∧ k + 1 ≤ ws.length := ⟨(1 + d).toNat, by omega, by omega, by omega, by omega⟩
        obtain ⟨k, ek, k1, k2, k3⟩ := hk
        have lt : (left.take k).length = k := by rw [List.length_take]; omega
        obtain ⟨q, pot2, e2, hp2, hq, aq, cq⟩ := e__law_node f (left.take k) (!b) pot1 hp1 (by omega) (by omega) (by omega)
        rw [Bool.not_not] at cq
        have ct : cut (left.map PyData.int) none (some (k : Int)) = (left.take k).map .int := by rw [cut_to, List.map_take]
        have cf : cut (left.map PyData.int) (some (k : Int)) none = (left.drop k).map .int := by rw [cut_from, List.map_drop]
        have ms : ps.length < maxSeq := by unfold maxSeq; omega
        refine sat_step (ρ1 := [some (.own pot1), some (.dat (lstD ws)), some (.dat (.str (wordS b))), some (.dat (.str (wordS (!b)))), some (.own (ps.map nd)), some (.dat (lstD left)), some (.dat (.int (k : Int)))]) ?_ (sat_step (ρ1 := [some (.own pot2), some (.dat (lstD ws)), some (.dat (.str (wordS b))), some (.dat (.str (wordS (!b)))), some (.own ((ps ++ [q]).map nd)), some (.dat (lstD left)), some (.dat (.int (k : Int)))]) ?_ ?_)
        · have em : cBin opMax2 (cK (.int 1)) (cBin opMin2 (cLen (lD (cV 5))) (cBin opSub (cLen (lD (cV 1))) (cK (.int 1)))) [some (.own pot), some (.dat (lstD ws)), some (.dat (.str (wordS b))), some (.dat (.str (wordS (!b)))), some (.own (ps.map nd)), some (.dat (lstD left)), j6] = .ok (.int mo) [some (.own pot), some (.dat (lstD ws)), some (.dat (.str (wordS b))), some (.dat (.str (wordS (!b)))), some (.own (ps.map nd)), some (.dat (lstD left)), j6] :=
            c_bin rfl (c_bin (c_len (l_D (d := lstD left) (by simp) rfl)) (c_bin (c_len (l_D (d := lstD ws) (by simp) rfl)) rfl rfl) (by simp; rfl)) (by simp; rfl)
          rw [sSet_ap, rD_ap, cBin_ap, cK_ap, Out.bind_ok, c_callP (n := 1) (i := 0) rfl (a_D em (aNil_ap _)) rfl e1]
          simp [ek]
        · rw [sApp_ap]
          have ec := c_callP (n := 2) (f := s__law_node f) (i := 0) (as := aD (cSl (cV 5) (oNone) (oSome (cV 6))) (aD (cV 3) (aNil))) (ρ := [some (.own pot1), some (.dat (lstD ws)), some (.dat (.str (wordS b))), some (.dat (.str (wordS (!b)))), some (.own (ps.map nd)), some (.dat (lstD left)), some (.dat (.int (k : Int)))]) rfl (a_D (d := lstD (left.take k)) (by simp [ct]) (a_D (d := .str (wordS (!b))) (by simp) rfl)) rfl e2
          simp only [lV_ap]
          simp only [List.getElem?_cons_succ, List.getElem?_cons_zero, Out.bind_ok]
          rw [ec]
          simp [ms]
        · refine ⟨.nx, [some (.own pot2), some (.dat (lstD ws)), some (.dat (.str (wordS b))), some (.dat (.str (wordS (!b)))), some (.own ((ps ++ [q]).map nd)), some (.dat (lstD (left.drop k))), some (.dat (.int (k : Int)))], by simp [cf], rfl, (left.drop k).length, by rw [List.length_drop]; omega, left.drop k, ps ++ [q], pot2, _, rfl, hp2, ?_, fun p hp' => ?_, rfl⟩
          · rw [worksL_app, worksL, worksL, hq, List.append_nil, List.append_assoc, List.take_append_drop]; exact hw
          · rcases List.mem_append.mp hp' with hp' | hp'
            · exact hps p hp'
            · simp only [List.mem_singleton] at hp'
              subst hp'
              exact ⟨aq, cq, by rw [hq, lt]; exact k3⟩
    obtain ⟨d, ys, e, ⟨ps, rfl, hw, al⟩, hy⟩ := key
    exact ⟨.comp b ps, ys, e, hy, hw, al, by cases b <;> rfl⟩
theorem e__law_pick2 {xs : List PyData} (h : PotOk xs) : ∃ (b : Bool) (ys : List PyData), s__law_pick [.own xs, .dat (.list [.str "behind", .str "beside"])] = .ret (.str (wordS b)) ys ∧ PotOk ys := by
  obtain ⟨d, ys, e, d1, d2, hy⟩ := e__law_draw h (many := 2) (by omega) (by omega)
  have : d = 0 ∨ d = 1 := by omega
  rcases this with rfl | rfl
  · refine ⟨true, ys, retP_of (ρ := [some (.dat (.list [.str "behind", .str "beside"]))]) (ret_ap ?_), hy⟩
    simp [e, wordS]
  · refine ⟨false, ys, retP_of (ρ := [some (.dat (.list [.str "behind", .str "beside"]))]) (ret_ap ?_), hy⟩
    simp [e, wordS]
theorem made_ord {n : Int} {p : Nd} (n1 : 1 ≤ n) (n16 : n ≤ 16) (c : Canon p) (pm : p.works.Perm (iota n)) : Made n (srtP p.pairs) p ∧ Ord n (srtP p.pairs) := by
  have nd : p.works.Nodup := pm.nodup_iff.mpr (iota_nodup n)
  have mp : ∀ x y, rl (srtP p.pairs) x y = true ↔ (x, y) ∈ p.pairs := fun x y => by
    unfold rl
    rw [decide_eq_true_eq, (srtP_perm _).mem_iff]
  refine ⟨⟨c, nd, srt_eq (iota_lt n) pm, rfl, n16⟩, ⟨n1, n16, fun q hq => ?_, srtP_lt (pairs_nodup p nd), ⟨fun x => ?_, fun x y z h1 h2 => ?_⟩⟩⟩
  · have hq' := (srtP_perm _).mem_iff.mp hq
    have hw := pairs_works p (x := q.1) (y := q.2) hq'
    have a := mem_iota.mp (pm.mem_iff.mp hw.1)
    have b := mem_iota.mp (pm.mem_iff.mp hw.2)
    exact ⟨a.1, a.2, b.1, b.2⟩
  · cases k : rl (srtP p.pairs) x x
    · rfl
    · exact absurd ((mp x x).mp k) (pairs_irr p nd x)
  · exact (mp x z).mpr (pairs_tr p nd x y z ((mp x y).mp h1) ((mp y z).mp h2))
theorem e__law_made_order {xs : List PyData} (h : PotOk xs) : ∃ (n : Int) (ps : List P2) (p : Nd) (ys : List PyData), s__law_made_order [.own xs, .dat (.int 8)] = .ret (.tuple [ordD n ps, nd p]) ys ∧ Ord n ps ∧ Made n ps p ∧ n ≤ 8 ∧ PotOk ys := by
  obtain ⟨d0, pot1, e0, a0, b0, hp1⟩ := e__law_draw h (many := 8) (by omega) (by omega)
  have n1 : 1 ≤ 1 + d0 := by omega
  have n8 : 1 + d0 ≤ 8 := by omega
  generalize hn : 1 + d0 = n at n1 n8
  obtain ⟨row, pot2, e1, pm, hp2⟩ := e__law_shuffled (D := PyData.int) fine_int hp1 (iota n) (by rw [iota_len]; omega)
  obtain ⟨b, pot3, e2, hp3⟩ := e__law_pick2 hp2
  have rlen : row.length = n.toNat := by rw [pm.length_eq, iota_len]
  obtain ⟨p0, pot4, e3, hp4, hw, al, _⟩ := e__law_node 24 row b pot3 hp3 (by omega) (by omega) (by omega)
  have nd0 : p0.works.Nodup := by rw [hw]; exact pm.nodup_iff.mpr (iota_nodup n)
  have c := lf_canon al nd0
  have few0 : Few p0 := ⟨alt_full al, by rw [hw]; omega⟩
  have e4 := e__law_least_first 24 p0 few0.hgt few0
  have pm2 : (lf p0).works.Perm (iota n) := (lf_works p0).trans (by rw [hw]; exact pm)
  obtain ⟨md, od⟩ := made_ord n1 (by omega) c pm2
  have fewl := lf_few few0
  have e5 := fewl.pairs
  have lp : (lf p0).pairs.length ≤ 16777216 := by
    have := len_pairs (lf p0)
    have := sq_le fewl.canon_works
    omega
  refine ⟨n, srtP (lf p0).pairs, lf p0, pot4, ?_, od, md, n8, hp4⟩
  have er : nRg1 (cV 2) [some (.own pot1), some (.dat (.int 8)), some (.dat (.int n)), none] = .ok ((iota n).map .int) [some (.own pot1), some (.dat (.int 8)), some (.dat (.int n)), none] := nRg1_at (by simp) (by omega) (by omega)
  refine retP_of (ρ := [some (.dat (.int 8)), some (.dat (.int n)), some (.dat (nd (lf p0)))]) (seq_nx (ρ1 := [some (.own pot1), some (.dat (.int 8)), some (.dat (.int n)), none]) (by simp [e0, hn]) (seq_nx (ρ1 := [some (.own pot4), some (.dat (.int 8)), some (.dat (.int n)), some (.dat (nd (lf p0)))]) ?_ (ret_ap ?_)))
  · have es := c_callP (n := 1) (f := s__law_shuffled) (i := 0) (as := aD (cN (nRg1 (cV 2))) (aNil)) (ρ := [some (.own pot1), some (.dat (.int 8)), some (.dat (.int n)), none]) rfl (a_D (c_N er) (aNil_ap _)) rfl e1
    have ek := c_callP (n := 1) (f := s__law_pick) (i := 0) (as := aD (cN (nLst (dCons (cK (.str "behind")) (dCons (cK (.str "beside")) (dNil))))) (aNil)) (ρ := [some (.own pot2), some (.dat (.int 8)), some (.dat (.int n)), none]) rfl (a_D (d := .list [.str "behind", .str "beside"]) (c_N (by simp)) (aNil_ap _)) rfl e2
    have eA : aD (cCallP 1 s__law_shuffled 0 (aD (cN (nRg1 (cV 2))) (aNil))) (aD (cCallP 1 s__law_pick 0 (aD (cN (nLst (dCons (cK (.str "behind")) (dCons (cK (.str "beside")) (dNil))))) (aNil))) (aNil)) [some (.own pot1), some (.dat (.int 8)), some (.dat (.int n)), none] = .ok [.dat (lstD row), .dat (.str (wordS b))] [some (.own pot3), some (.dat (.int 8)), some (.dat (.int n)), none] := by
      rw [aD_ap, es, Out.bind_ok]
      simp only [List.set_cons_zero]
      rw [aD_ap, ek]
      rfl
    have eN := c_callP' (n := 2) (f := s__law_node 24) (i := 0) (ρ := [some (.own pot1), some (.dat (.int 8)), some (.dat (.int n)), none]) rfl eA rfl rfl e3
    rw [sSet_ap, rD_ap, cCall_ap, aD_ap, eN]
    simp [e4]
  · refine c_tup (d_cons (c_tup (d_cons rfl (d_cons (by simp; rfl) (d_cons (c_tuple (n_sortD (xs := (lf p0).pairs.map prD) (l_D (d := .list ((lf p0).pairs.map prD)) (by simp [sp_eq, e5]) rfl) (sortOk_pr _ lp))) (dNil_ap _)))) rfl) (d_cons (by simp; rfl) (dNil_ap _))) rfl |>.trans ?_
    rw [sortD_pr]; rfl
/-! ### the law -/
@[simp] theorem aS_ap (i : Nat) (r : As) (ρ : En) : aS i r ρ = match ρ[i]? with
  | some (some (.scr ns)) => (r ρ).bind fun s ρ => .ok (.scr ns :: s) ρ
  | _ => .stuck := rfl
theorem e_law (ns : List Int) : s_law [.scr ns] = .ret (.bool true) [] := by
  have ez : ∀ k : Int, k ∈ [(0 : Int), 1] → k = 0 ∨ k = 1 := fun k hk => by simpa using hk
  refine ret_sat (sat_seq ?_)
  refine sat_for (D := PyData.int) (ys := [0, 1]) (fun _ ρ => ∃ j1 j2 j3 j4, ρ = [some (.scr ns), j1, j2, j3, j4]) (by simp) ⟨none, none, none, none, rfl⟩ ?_ ?_
  · rintro pre k post ρ e ⟨j1, j2, j3, j4, rfl⟩
    have hk := ez k (by rw [e]; simp)
    obtain ⟨pot, e0, h0⟩ := e__law_pot ns hk
    obtain ⟨n, ps, p, pot1, e1, o1, m1, n8, h1⟩ := e__law_made_order h0
    have e2 := e__law_right o1 n8 pot1
    have e3 := e_order_making_some o1 (mkO_of o1 m1)
    obtain ⟨n2, S2, z2, pot2, e4, o2, n82, h2⟩ := e__law_order h1 (most := 7) (part := 2) (by omega) (by omega) (by omega) (by omega)
    have e5 := e__law_right o2 n82 pot2
    obtain ⟨n3, S3, z3, pot3, e6, o3, n83, h3⟩ := e__law_order h2 (most := 8) (part := 4) (by omega) (by omega) (by omega) (by omega)
    have e7 := e__law_right o3 n83 pot3
    have g1 := opNe_self ((fine_nd p).mono (show 2 * hgt p + 1 ≤ 64 by have := m1.few.full.hgt; have := m1.few.few; omega))
    refine sat_turn (ρ1 := [some (.scr ns), some (.dat (.int k)), j2, j3, j4]) (by simp) (sat_step (ρ1 := [some (.scr ns), some (.dat (.int k)), some (.own pot), j3, j4]) (by simp [e0]) (sat_step (ρ1 := [some (.scr ns), some (.dat (.int k)), some (.own pot1), some (.dat (ordD n ps)), some (.dat (nd p))]) (by simp [e1]) ?_))
    refine ⟨.nx, [some (.scr ns), some (.dat (.int k)), some (.own pot3), some (.dat (ordD n ps)), some (.dat (nd p))], ?_, rfl, _, _, _, _, rfl⟩
    simp [e2, e3, g1, e4, e5, e6, e7]
  · rintro ρ' ⟨j1, j2, j3, j4, rfl⟩
    exact ⟨rfl, _, _, ret_ap rfl, rfl⟩
end Mo.K70
end
section
set_option autoImplicit false
set_option linter.all false
set_option Elab.async false
set_option maxRecDepth 100000
set_option maxHeartbeats 0
/-! Printed by gen.py: each def of the row as a plain function, and that it is that. -/
namespace Mo.K70
open PyProof.Rows hiding St
open PySem PySem.Spec L2

abbrev d_ (x : Str) (i : Nat) : He.DefD := ⟨(x, none), x, x, defArgs (top i), defBody (top i), defScope (top i), [], []⟩
def fn : List He.DefD := [d_ "is_ahead_of" 21, d_ "are_free_of" 22, d_ "are_paired" 42, d_ "is_integer" 7, d_ "is_count" 8, d_ "is_below" 9, d_ "is_row" 10, d_ "is_rising" 11, d_ "is_pair_of" 15, d_ "are_closed" 16, d_ "is_order_of" 17, d_ "is_work_of" 18, d_ "works_of" 19, d_ "pairs_of" 20, d_ "want_order" 23, d_ "is_n_at" 30, d_ "is_n_of" 31, d_ "are_unpaired" 32, d_ "ns_of" 33, d_ "works_in" 34, d_ "least_work" 35, d_ "is_node_of" 36, d_ "is_any_making" 37, d_ "pairs_in" 38, d_ "order_by_node" 39, d_ "is_making_of" 40, d_ "lots_of" 41, d_ "by_size_behind" 43, d_ "node_of" 44, d_ "making_of" 45, d_ "paper_of" 46, d_ "is_paper_of" 47, d_ "is_n" 48, d_ "is_order_making" 49, d_ "ns" 50, d_ "order_making" 51, d_ "order_by_making" 52, d_ "order_paper" 53, d_ "is_order_paper" 54, d_ "_law_pot" 56, d_ "_law_draw" 57, d_ "_law_pick" 58, d_ "_law_shuffled" 59, d_ "_law_joined" 61, d_ "_law_closed" 60, d_ "_law_order" 62, d_ "_law_node" 63, d_ "_law_works_in" 64, d_ "_law_pairs_in" 65, d_ "_law_least_work" 67, d_ "_law_least_first" 66, d_ "_law_made_order" 68, d_ "_law_ahead" 70, d_ "_law_is_n" 69, d_ "_law_fours" 71, d_ "_law_told" 72, d_ "_law_is_plain" 74, d_ "_law_is_making" 73, d_ "_law_right" 75, d_ "law" 76]
def fa : List He.Fa := [.free "abs", .free "all", .free "any", .free "bool", .free "divmod", .free "enumerate", .free "int", .free "isinstance", .free "len", .free "list", .free "max", .free "min", .free "range", .free "repr", .free "set", .free "sorted", .free "str", .free "tuple", .free "zip", .str "BEHIND" "behind", .str "BESIDE" "beside", .str "EN" "n", .str "MADE" "made", .int "MOST_WORKS" 16, .str "ORDER" "order", .str "WORK" "work", .glo "is_ahead_of", .glo "are_free_of", .glo "are_paired", .glo "is_integer", .glo "is_count", .glo "is_below", .glo "is_row", .glo "is_rising", .glo "is_pair_of", .glo "are_closed", .glo "is_order_of", .glo "is_work_of", .glo "works_of", .glo "pairs_of", .glo "want_order", .glo "is_n_at", .glo "is_n_of", .glo "are_unpaired", .glo "ns_of", .glo "works_in", .glo "least_work", .glo "is_node_of", .glo "is_any_making", .glo "pairs_in", .glo "order_by_node", .glo "is_making_of", .glo "lots_of", .glo "by_size_behind", .glo "node_of", .glo "making_of", .glo "paper_of", .glo "is_paper_of", .glo "is_n", .glo "is_order_making", .glo "ns", .glo "order_making", .glo "order_by_making", .glo "order_paper", .glo "is_order_paper", .glo "_law_pot", .glo "_law_draw", .glo "_law_pick", .glo "_law_shuffled", .glo "_law_joined", .glo "_law_closed", .glo "_law_order", .glo "_law_node", .glo "_law_works_in", .glo "_law_pairs_in", .glo "_law_least_work", .glo "_law_least_first", .glo "_law_made_order", .glo "_law_ahead", .glo "_law_is_n", .glo "_law_fours", .glo "_law_told", .glo "_law_is_plain", .glo "_law_is_making", .glo "_law_right", .glo "law"]
def ex (K : PySem.W.Frag) : Bool := exclB "RuntimeError.__new__" [.type "RuntimeError", .type "Exception", .type "BaseException", .type "object"] "NotMade" K && exisB "NotMade" "StateError" K
theorem law_ok {P : Program} {w : World} {K : PySem.W.Frag} {h : Heap} {mg : Str → Option Value} {base : Heap} {f : Addr} {fd : FuncData} (X : K.In h) (Gn : h.Ns mainGlobals mg) (c : He.SaysD fa fn K) (cx : ex K = true) (F : FnP K "law" (top 76) f fd) : FnM P w K mg base 56 f fd ["script"] (spM K mg 1 s_law) := by
  have g : G mg := ⟨He.free_ok X Gn (c.fact 0 (f := .free "abs") rfl),
    He.free_ok X Gn (c.fact 1 (f := .free "all") rfl),
    He.free_ok X Gn (c.fact 2 (f := .free "any") rfl),
    He.free_ok X Gn (c.fact 3 (f := .free "bool") rfl),
    He.free_ok X Gn (c.fact 4 (f := .free "divmod") rfl),
    He.free_ok X Gn (c.fact 5 (f := .free "enumerate") rfl),
    He.free_ok X Gn (c.fact 6 (f := .free "int") rfl),
    He.free_ok X Gn (c.fact 7 (f := .free "isinstance") rfl),
    He.free_ok X Gn (c.fact 8 (f := .free "len") rfl),
    He.free_ok X Gn (c.fact 9 (f := .free "list") rfl),
    He.free_ok X Gn (c.fact 10 (f := .free "max") rfl),
    He.free_ok X Gn (c.fact 11 (f := .free "min") rfl),
    He.free_ok X Gn (c.fact 12 (f := .free "range") rfl),
    He.free_ok X Gn (c.fact 13 (f := .free "repr") rfl),
    He.free_ok X Gn (c.fact 14 (f := .free "set") rfl),
    He.free_ok X Gn (c.fact 15 (f := .free "sorted") rfl),
    He.free_ok X Gn (c.fact 16 (f := .free "str") rfl),
    He.free_ok X Gn (c.fact 17 (f := .free "tuple") rfl),
    He.free_ok X Gn (c.fact 18 (f := .free "zip") rfl),
    He.str_ok X Gn (c.fact 19 (f := .str "BEHIND" "behind") rfl),
    He.str_ok X Gn (c.fact 20 (f := .str "BESIDE" "beside") rfl),
    He.str_ok X Gn (c.fact 21 (f := .str "EN" "n") rfl),
    He.str_ok X Gn (c.fact 22 (f := .str "MADE" "made") rfl),
    He.int_ok X Gn (c.fact 23 (f := .int "MOST_WORKS" 16) rfl),
    He.str_ok X Gn (c.fact 24 (f := .str "ORDER" "order") rfl),
    He.str_ok X Gn (c.fact 25 (f := .str "WORK" "work") rfl)⟩
  obtain ⟨cx1, cx2⟩ := Bool.and_eq_true_iff.mp cx
  have gx : GX K mg := ⟨exclB_ok X Gn cx1, exisB_ok X Gn cx2⟩
  have D_is_ahead_of : Df K mg "is_ahead_of" (top 21) := ⟨let ⟨fd, F⟩ := c.def_ 0 (d := d_ "is_ahead_of" 21) rfl; ⟨_, fd, F, He.glo_ok X Gn (c.fact 26 (f := .glo "is_ahead_of") rfl)⟩⟩
  have D_are_free_of : Df K mg "are_free_of" (top 22) := ⟨let ⟨fd, F⟩ := c.def_ 1 (d := d_ "are_free_of" 22) rfl; ⟨_, fd, F, He.glo_ok X Gn (c.fact 27 (f := .glo "are_free_of") rfl)⟩⟩
  have D_are_paired : Df K mg "are_paired" (top 42) := ⟨let ⟨fd, F⟩ := c.def_ 2 (d := d_ "are_paired" 42) rfl; ⟨_, fd, F, He.glo_ok X Gn (c.fact 28 (f := .glo "are_paired") rfl)⟩⟩
  have D_is_integer : Df K mg "is_integer" (top 7) := ⟨let ⟨fd, F⟩ := c.def_ 3 (d := d_ "is_integer" 7) rfl; ⟨_, fd, F, He.glo_ok X Gn (c.fact 29 (f := .glo "is_integer") rfl)⟩⟩
  have D_is_count : Df K mg "is_count" (top 8) := ⟨let ⟨fd, F⟩ := c.def_ 4 (d := d_ "is_count" 8) rfl; ⟨_, fd, F, He.glo_ok X Gn (c.fact 30 (f := .glo "is_count") rfl)⟩⟩
  have D_is_below : Df K mg "is_below" (top 9) := ⟨let ⟨fd, F⟩ := c.def_ 5 (d := d_ "is_below" 9) rfl; ⟨_, fd, F, He.glo_ok X Gn (c.fact 31 (f := .glo "is_below") rfl)⟩⟩
  have D_is_row : Df K mg "is_row" (top 10) := ⟨let ⟨fd, F⟩ := c.def_ 6 (d := d_ "is_row" 10) rfl; ⟨_, fd, F, He.glo_ok X Gn (c.fact 32 (f := .glo "is_row") rfl)⟩⟩
  have D_is_rising : Df K mg "is_rising" (top 11) := ⟨let ⟨fd, F⟩ := c.def_ 7 (d := d_ "is_rising" 11) rfl; ⟨_, fd, F, He.glo_ok X Gn (c.fact 33 (f := .glo "is_rising") rfl)⟩⟩
  have D_is_pair_of : Df K mg "is_pair_of" (top 15) := ⟨let ⟨fd, F⟩ := c.def_ 8 (d := d_ "is_pair_of" 15) rfl; ⟨_, fd, F, He.glo_ok X Gn (c.fact 34 (f := .glo "is_pair_of") rfl)⟩⟩
  have D_are_closed : Df K mg "are_closed" (top 16) := ⟨let ⟨fd, F⟩ := c.def_ 9 (d := d_ "are_closed" 16) rfl; ⟨_, fd, F, He.glo_ok X Gn (c.fact 35 (f := .glo "are_closed") rfl)⟩⟩
  have D_is_order_of : Df K mg "is_order_of" (top 17) := ⟨let ⟨fd, F⟩ := c.def_ 10 (d := d_ "is_order_of" 17) rfl; ⟨_, fd, F, He.glo_ok X Gn (c.fact 36 (f := .glo "is_order_of") rfl)⟩⟩
  have D_is_work_of : Df K mg "is_work_of" (top 18) := ⟨let ⟨fd, F⟩ := c.def_ 11 (d := d_ "is_work_of" 18) rfl; ⟨_, fd, F, He.glo_ok X Gn (c.fact 37 (f := .glo "is_work_of") rfl)⟩⟩
  have D_works_of : Df K mg "works_of" (top 19) := ⟨let ⟨fd, F⟩ := c.def_ 12 (d := d_ "works_of" 19) rfl; ⟨_, fd, F, He.glo_ok X Gn (c.fact 38 (f := .glo "works_of") rfl)⟩⟩
  have D_pairs_of : Df K mg "pairs_of" (top 20) := ⟨let ⟨fd, F⟩ := c.def_ 13 (d := d_ "pairs_of" 20) rfl; ⟨_, fd, F, He.glo_ok X Gn (c.fact 39 (f := .glo "pairs_of") rfl)⟩⟩
  have D_want_order : Df K mg "want_order" (top 23) := ⟨let ⟨fd, F⟩ := c.def_ 14 (d := d_ "want_order" 23) rfl; ⟨_, fd, F, He.glo_ok X Gn (c.fact 40 (f := .glo "want_order") rfl)⟩⟩
  have D_is_n_at : Df K mg "is_n_at" (top 30) := ⟨let ⟨fd, F⟩ := c.def_ 15 (d := d_ "is_n_at" 30) rfl; ⟨_, fd, F, He.glo_ok X Gn (c.fact 41 (f := .glo "is_n_at") rfl)⟩⟩
  have D_is_n_of : Df K mg "is_n_of" (top 31) := ⟨let ⟨fd, F⟩ := c.def_ 16 (d := d_ "is_n_of" 31) rfl; ⟨_, fd, F, He.glo_ok X Gn (c.fact 42 (f := .glo "is_n_of") rfl)⟩⟩
  have D_are_unpaired : Df K mg "are_unpaired" (top 32) := ⟨let ⟨fd, F⟩ := c.def_ 17 (d := d_ "are_unpaired" 32) rfl; ⟨_, fd, F, He.glo_ok X Gn (c.fact 43 (f := .glo "are_unpaired") rfl)⟩⟩
  have D_ns_of : Df K mg "ns_of" (top 33) := ⟨let ⟨fd, F⟩ := c.def_ 18 (d := d_ "ns_of" 33) rfl; ⟨_, fd, F, He.glo_ok X Gn (c.fact 44 (f := .glo "ns_of") rfl)⟩⟩
  have D_works_in : Df K mg "works_in" (top 34) := ⟨let ⟨fd, F⟩ := c.def_ 19 (d := d_ "works_in" 34) rfl; ⟨_, fd, F, He.glo_ok X Gn (c.fact 45 (f := .glo "works_in") rfl)⟩⟩
  have D_least_work : Df K mg "least_work" (top 35) := ⟨let ⟨fd, F⟩ := c.def_ 20 (d := d_ "least_work" 35) rfl; ⟨_, fd, F, He.glo_ok X Gn (c.fact 46 (f := .glo "least_work") rfl)⟩⟩
  have D_is_node_of : Df K mg "is_node_of" (top 36) := ⟨let ⟨fd, F⟩ := c.def_ 21 (d := d_ "is_node_of" 36) rfl; ⟨_, fd, F, He.glo_ok X Gn (c.fact 47 (f := .glo "is_node_of") rfl)⟩⟩
  have D_is_any_making : Df K mg "is_any_making" (top 37) := ⟨let ⟨fd, F⟩ := c.def_ 22 (d := d_ "is_any_making" 37) rfl; ⟨_, fd, F, He.glo_ok X Gn (c.fact 48 (f := .glo "is_any_making") rfl)⟩⟩
  have D_pairs_in : Df K mg "pairs_in" (top 38) := ⟨let ⟨fd, F⟩ := c.def_ 23 (d := d_ "pairs_in" 38) rfl; ⟨_, fd, F, He.glo_ok X Gn (c.fact 49 (f := .glo "pairs_in") rfl)⟩⟩
  have D_order_by_node : Df K mg "order_by_node" (top 39) := ⟨let ⟨fd, F⟩ := c.def_ 24 (d := d_ "order_by_node" 39) rfl; ⟨_, fd, F, He.glo_ok X Gn (c.fact 50 (f := .glo "order_by_node") rfl)⟩⟩
  have D_is_making_of : Df K mg "is_making_of" (top 40) := ⟨let ⟨fd, F⟩ := c.def_ 25 (d := d_ "is_making_of" 40) rfl; ⟨_, fd, F, He.glo_ok X Gn (c.fact 51 (f := .glo "is_making_of") rfl)⟩⟩
  have D_lots_of : Df K mg "lots_of" (top 41) := ⟨let ⟨fd, F⟩ := c.def_ 26 (d := d_ "lots_of" 41) rfl; ⟨_, fd, F, He.glo_ok X Gn (c.fact 52 (f := .glo "lots_of") rfl)⟩⟩
  have D_by_size_behind : Df K mg "by_size_behind" (top 43) := ⟨let ⟨fd, F⟩ := c.def_ 27 (d := d_ "by_size_behind" 43) rfl; ⟨_, fd, F, He.glo_ok X Gn (c.fact 53 (f := .glo "by_size_behind") rfl)⟩⟩
  have D_node_of : Df K mg "node_of" (top 44) := ⟨let ⟨fd, F⟩ := c.def_ 28 (d := d_ "node_of" 44) rfl; ⟨_, fd, F, He.glo_ok X Gn (c.fact 54 (f := .glo "node_of") rfl)⟩⟩
  have D_making_of : Df K mg "making_of" (top 45) := ⟨let ⟨fd, F⟩ := c.def_ 29 (d := d_ "making_of" 45) rfl; ⟨_, fd, F, He.glo_ok X Gn (c.fact 55 (f := .glo "making_of") rfl)⟩⟩
  have D_paper_of : Df K mg "paper_of" (top 46) := ⟨let ⟨fd, F⟩ := c.def_ 30 (d := d_ "paper_of" 46) rfl; ⟨_, fd, F, He.glo_ok X Gn (c.fact 56 (f := .glo "paper_of") rfl)⟩⟩
  have D_is_paper_of : Df K mg "is_paper_of" (top 47) := ⟨let ⟨fd, F⟩ := c.def_ 31 (d := d_ "is_paper_of" 47) rfl; ⟨_, fd, F, He.glo_ok X Gn (c.fact 57 (f := .glo "is_paper_of") rfl)⟩⟩
  have D_is_n : Df K mg "is_n" (top 48) := ⟨let ⟨fd, F⟩ := c.def_ 32 (d := d_ "is_n" 48) rfl; ⟨_, fd, F, He.glo_ok X Gn (c.fact 58 (f := .glo "is_n") rfl)⟩⟩
  have D_is_order_making : Df K mg "is_order_making" (top 49) := ⟨let ⟨fd, F⟩ := c.def_ 33 (d := d_ "is_order_making" 49) rfl; ⟨_, fd, F, He.glo_ok X Gn (c.fact 59 (f := .glo "is_order_making") rfl)⟩⟩
  have D_ns : Df K mg "ns" (top 50) := ⟨let ⟨fd, F⟩ := c.def_ 34 (d := d_ "ns" 50) rfl; ⟨_, fd, F, He.glo_ok X Gn (c.fact 60 (f := .glo "ns") rfl)⟩⟩
  have D_order_making : Df K mg "order_making" (top 51) := ⟨let ⟨fd, F⟩ := c.def_ 35 (d := d_ "order_making" 51) rfl; ⟨_, fd, F, He.glo_ok X Gn (c.fact 61 (f := .glo "order_making") rfl)⟩⟩
  have D_order_by_making : Df K mg "order_by_making" (top 52) := ⟨let ⟨fd, F⟩ := c.def_ 36 (d := d_ "order_by_making" 52) rfl; ⟨_, fd, F, He.glo_ok X Gn (c.fact 62 (f := .glo "order_by_making") rfl)⟩⟩
  have D_order_paper : Df K mg "order_paper" (top 53) := ⟨let ⟨fd, F⟩ := c.def_ 37 (d := d_ "order_paper" 53) rfl; ⟨_, fd, F, He.glo_ok X Gn (c.fact 63 (f := .glo "order_paper") rfl)⟩⟩
  have D_is_order_paper : Df K mg "is_order_paper" (top 54) := ⟨let ⟨fd, F⟩ := c.def_ 38 (d := d_ "is_order_paper" 54) rfl; ⟨_, fd, F, He.glo_ok X Gn (c.fact 64 (f := .glo "is_order_paper") rfl)⟩⟩
  have D__law_pot : Df K mg "_law_pot" (top 56) := ⟨let ⟨fd, F⟩ := c.def_ 39 (d := d_ "_law_pot" 56) rfl; ⟨_, fd, F, He.glo_ok X Gn (c.fact 65 (f := .glo "_law_pot") rfl)⟩⟩
  have D__law_draw : Df K mg "_law_draw" (top 57) := ⟨let ⟨fd, F⟩ := c.def_ 40 (d := d_ "_law_draw" 57) rfl; ⟨_, fd, F, He.glo_ok X Gn (c.fact 66 (f := .glo "_law_draw") rfl)⟩⟩
  have D__law_pick : Df K mg "_law_pick" (top 58) := ⟨let ⟨fd, F⟩ := c.def_ 41 (d := d_ "_law_pick" 58) rfl; ⟨_, fd, F, He.glo_ok X Gn (c.fact 67 (f := .glo "_law_pick") rfl)⟩⟩
  have D__law_shuffled : Df K mg "_law_shuffled" (top 59) := ⟨let ⟨fd, F⟩ := c.def_ 42 (d := d_ "_law_shuffled" 59) rfl; ⟨_, fd, F, He.glo_ok X Gn (c.fact 68 (f := .glo "_law_shuffled") rfl)⟩⟩
  have D__law_joined : Df K mg "_law_joined" (top 61) := ⟨let ⟨fd, F⟩ := c.def_ 43 (d := d_ "_law_joined" 61) rfl; ⟨_, fd, F, He.glo_ok X Gn (c.fact 69 (f := .glo "_law_joined") rfl)⟩⟩
  have D__law_closed : Df K mg "_law_closed" (top 60) := ⟨let ⟨fd, F⟩ := c.def_ 44 (d := d_ "_law_closed" 60) rfl; ⟨_, fd, F, He.glo_ok X Gn (c.fact 70 (f := .glo "_law_closed") rfl)⟩⟩
  have D__law_order : Df K mg "_law_order" (top 62) := ⟨let ⟨fd, F⟩ := c.def_ 45 (d := d_ "_law_order" 62) rfl; ⟨_, fd, F, He.glo_ok X Gn (c.fact 71 (f := .glo "_law_order") rfl)⟩⟩
  have D__law_node : Df K mg "_law_node" (top 63) := ⟨let ⟨fd, F⟩ := c.def_ 46 (d := d_ "_law_node" 63) rfl; ⟨_, fd, F, He.glo_ok X Gn (c.fact 72 (f := .glo "_law_node") rfl)⟩⟩
  have D__law_works_in : Df K mg "_law_works_in" (top 64) := ⟨let ⟨fd, F⟩ := c.def_ 47 (d := d_ "_law_works_in" 64) rfl; ⟨_, fd, F, He.glo_ok X Gn (c.fact 73 (f := .glo "_law_works_in") rfl)⟩⟩
  have D__law_pairs_in : Df K mg "_law_pairs_in" (top 65) := ⟨let ⟨fd, F⟩ := c.def_ 48 (d := d_ "_law_pairs_in" 65) rfl; ⟨_, fd, F, He.glo_ok X Gn (c.fact 74 (f := .glo "_law_pairs_in") rfl)⟩⟩
  have D__law_least_work : Df K mg "_law_least_work" (top 67) := ⟨let ⟨fd, F⟩ := c.def_ 49 (d := d_ "_law_least_work" 67) rfl; ⟨_, fd, F, He.glo_ok X Gn (c.fact 75 (f := .glo "_law_least_work") rfl)⟩⟩
  have D__law_least_first : Df K mg "_law_least_first" (top 66) := ⟨let ⟨fd, F⟩ := c.def_ 50 (d := d_ "_law_least_first" 66) rfl; ⟨_, fd, F, He.glo_ok X Gn (c.fact 76 (f := .glo "_law_least_first") rfl)⟩⟩
  have D__law_made_order : Df K mg "_law_made_order" (top 68) := ⟨let ⟨fd, F⟩ := c.def_ 51 (d := d_ "_law_made_order" 68) rfl; ⟨_, fd, F, He.glo_ok X Gn (c.fact 77 (f := .glo "_law_made_order") rfl)⟩⟩
  have D__law_ahead : Df K mg "_law_ahead" (top 70) := ⟨let ⟨fd, F⟩ := c.def_ 52 (d := d_ "_law_ahead" 70) rfl; ⟨_, fd, F, He.glo_ok X Gn (c.fact 78 (f := .glo "_law_ahead") rfl)⟩⟩
  have D__law_is_n : Df K mg "_law_is_n" (top 69) := ⟨let ⟨fd, F⟩ := c.def_ 53 (d := d_ "_law_is_n" 69) rfl; ⟨_, fd, F, He.glo_ok X Gn (c.fact 79 (f := .glo "_law_is_n") rfl)⟩⟩
  have D__law_fours : Df K mg "_law_fours" (top 71) := ⟨let ⟨fd, F⟩ := c.def_ 54 (d := d_ "_law_fours" 71) rfl; ⟨_, fd, F, He.glo_ok X Gn (c.fact 80 (f := .glo "_law_fours") rfl)⟩⟩
  have D__law_told : Df K mg "_law_told" (top 72) := ⟨let ⟨fd, F⟩ := c.def_ 55 (d := d_ "_law_told" 72) rfl; ⟨_, fd, F, He.glo_ok X Gn (c.fact 81 (f := .glo "_law_told") rfl)⟩⟩
  have D__law_is_plain : Df K mg "_law_is_plain" (top 74) := ⟨let ⟨fd, F⟩ := c.def_ 56 (d := d_ "_law_is_plain" 74) rfl; ⟨_, fd, F, He.glo_ok X Gn (c.fact 82 (f := .glo "_law_is_plain") rfl)⟩⟩
  have D__law_is_making : Df K mg "_law_is_making" (top 73) := ⟨let ⟨fd, F⟩ := c.def_ 57 (d := d_ "_law_is_making" 73) rfl; ⟨_, fd, F, He.glo_ok X Gn (c.fact 83 (f := .glo "_law_is_making") rfl)⟩⟩
  have D__law_right : Df K mg "_law_right" (top 75) := ⟨let ⟨fd, F⟩ := c.def_ 58 (d := d_ "_law_right" 75) rfl; ⟨_, fd, F, He.glo_ok X Gn (c.fact 84 (f := .glo "_law_right") rfl)⟩⟩
  have c_is_ahead_of := c_is_ahead_of (P := P) (w := w) (base := base) g D_is_ahead_of 
  have c_are_free_of := c_are_free_of (P := P) (w := w) (base := base) g D_are_free_of c_is_ahead_of
  have c_are_paired := c_are_paired (P := P) (w := w) (base := base) g D_are_paired c_are_free_of
  have c_is_integer := c_is_integer (P := P) (w := w) (base := base) g D_is_integer 
  have c_is_count := c_is_count (P := P) (w := w) (base := base) g D_is_count c_is_integer
  have c_is_below := c_is_below (P := P) (w := w) (base := base) g D_is_below c_is_count
  have c_is_row := c_is_row (P := P) (w := w) (base := base) g D_is_row 
  have c_is_rising := c_is_rising (P := P) (w := w) (base := base) g D_is_rising 
  have c_is_pair_of := c_is_pair_of (P := P) (w := w) (base := base) g D_is_pair_of c_is_row c_is_below
  have c_are_closed := c_are_closed (P := P) (w := w) (base := base) g D_are_closed 
  have c_is_order_of := c_is_order_of (P := P) (w := w) (base := base) g D_is_order_of c_is_row c_is_below c_is_pair_of c_is_rising c_are_closed
  have c_is_work_of := c_is_work_of (P := P) (w := w) (base := base) g D_is_work_of c_is_below
  have c_works_of := c_works_of (P := P) (w := w) (base := base) g D_works_of 
  have c_pairs_of := c_pairs_of (P := P) (w := w) (base := base) g D_pairs_of 
  have c_want_order := c_want_order (P := P) (w := w) (base := base) g D_want_order c_is_order_of
  have c_is_n_at := c_is_n_at (P := P) (w := w) (base := base) g D_is_n_at c_is_ahead_of c_are_free_of
  have c_is_n_of := c_is_n_of (P := P) (w := w) (base := base) g D_is_n_of c_is_row c_is_work_of c_is_n_at
  have c_are_unpaired := c_are_unpaired (P := P) (w := w) (base := base) g D_are_unpaired 
  have c_ns_of := c_ns_of (P := P) (w := w) (base := base) g D_ns_of c_pairs_of c_works_of c_are_unpaired
  have c_works_in := c_works_in (P := P) (w := w) (base := base) g D_works_in  24
  have c_least_work := c_least_work (P := P) (w := w) (base := base) g D_least_work c_works_in
  have c_is_node_of := c_is_node_of (P := P) (w := w) (base := base) g D_is_node_of c_is_row c_is_below c_least_work 24
  have c_is_any_making := c_is_any_making (P := P) (w := w) (base := base) g D_is_any_making c_is_node_of c_works_in
  have c_pairs_in := c_pairs_in (P := P) (w := w) (base := base) g D_pairs_in c_works_in 24
  have c_order_by_node := c_order_by_node (P := P) (w := w) (base := base) g D_order_by_node c_works_in c_pairs_in
  have c_is_making_of := c_is_making_of (P := P) (w := w) (base := base) g D_is_making_of c_is_any_making c_order_by_node
  have c_fnT : ∀ y f, fnT y = some f → CalM P w K mg base 4 y (spM K mg 3 f) := fun y f h => by
    unfold fnT at h
    split at h
    · rename_i e; cases h; rw [e]; exact c_are_paired.mono (by decide)
    split at h
    · rename_i e; cases h; rw [e]; exact c_are_free_of.mono (by decide)
    cases h
  have c_lots_of := c_lots_of (P := P) (w := w) (base := base) g D_lots_of c_fnT
  have c_by_size_behind := c_by_size_behind (P := P) (w := w) (base := base) g D_by_size_behind c_is_ahead_of
  have c_node_of := c_node_of (P := P) (w := w) (base := base) g D_node_of c_are_paired c_lots_of c_are_free_of c_by_size_behind 24
  have c_making_of := c_making_of (P := P) (w := w) (base := base) g D_making_of c_works_of c_node_of
  have c_paper_of := c_paper_of (P := P) (w := w) (base := base) g D_paper_of c_making_of c_ns_of
  have c_is_paper_of := c_is_paper_of (P := P) (w := w) (base := base) g D_is_paper_of c_is_row c_is_making_of c_is_n_of
  have c_is_n := c_is_n (P := P) (w := w) (base := base) g D_is_n c_want_order c_is_n_of
  have c_is_order_making := c_is_order_making (P := P) (w := w) (base := base) g D_is_order_making c_want_order c_is_making_of
  have c_ns := c_ns (P := P) (w := w) (base := base) g D_ns c_want_order c_ns_of
  have ck_ns := ck_ns (P := P) (w := w) (base := base) g D_ns c_want_order c_ns_of
  have c_order_making := c_order_making (P := P) (w := w) (base := base) g D_order_making gx c_want_order c_making_of
  have ck_order_making := ck_order_making (P := P) (w := w) (base := base) g D_order_making gx c_want_order c_making_of
  have c_order_by_making := c_order_by_making (P := P) (w := w) (base := base) g D_order_by_making c_is_any_making c_order_by_node
  have ck_order_by_making := ck_order_by_making (P := P) (w := w) (base := base) g D_order_by_making c_is_any_making c_order_by_node
  have c_order_paper := c_order_paper (P := P) (w := w) (base := base) g D_order_paper c_want_order c_paper_of
  have ck_order_paper := ck_order_paper (P := P) (w := w) (base := base) g D_order_paper c_want_order c_paper_of
  have c_is_order_paper := c_is_order_paper (P := P) (w := w) (base := base) g D_is_order_paper c_want_order c_is_paper_of
  have ck_is_order_paper := ck_is_order_paper (P := P) (w := w) (base := base) g D_is_order_paper c_want_order c_is_paper_of
  have c__law_pot := c__law_pot (P := P) (w := w) (base := base) g D__law_pot 
  have c__law_draw := c__law_draw (P := P) (w := w) (base := base) g D__law_draw 
  have c__law_pick := c__law_pick (P := P) (w := w) (base := base) g D__law_pick c__law_draw
  have c__law_shuffled := c__law_shuffled (P := P) (w := w) (base := base) g D__law_shuffled c__law_draw
  have c__law_joined := c__law_joined (P := P) (w := w) (base := base) g D__law_joined 
  have c__law_closed := c__law_closed (P := P) (w := w) (base := base) g D__law_closed c__law_joined
  have c__law_order := c__law_order (P := P) (w := w) (base := base) g D__law_order c__law_draw c__law_shuffled c__law_closed
  have c__law_node := c__law_node (P := P) (w := w) (base := base) g D__law_node c__law_draw 24
  have c__law_works_in := c__law_works_in (P := P) (w := w) (base := base) g D__law_works_in  24
  have c__law_pairs_in := c__law_pairs_in (P := P) (w := w) (base := base) g D__law_pairs_in c__law_works_in 24
  have c__law_least_work := c__law_least_work (P := P) (w := w) (base := base) g D__law_least_work c__law_works_in
  have c__law_least_first := c__law_least_first (P := P) (w := w) (base := base) g D__law_least_first c__law_least_work 24
  have c__law_made_order := c__law_made_order (P := P) (w := w) (base := base) g D__law_made_order c__law_draw c__law_node c__law_pick c__law_shuffled c__law_least_first c__law_pairs_in
  have c__law_ahead := c__law_ahead (P := P) (w := w) (base := base) g D__law_ahead 
  have c__law_is_n := c__law_is_n (P := P) (w := w) (base := base) g D__law_is_n c__law_ahead
  have c__law_fours := c__law_fours (P := P) (w := w) (base := base) g D__law_fours c__law_is_n
  have c__law_told := c__law_told (P := P) (w := w) (base := base) g D__law_told gx c_order_making
  have c__law_is_plain := c__law_is_plain (P := P) (w := w) (base := base) g D__law_is_plain  24
  have c__law_is_making := c__law_is_making (P := P) (w := w) (base := base) g D__law_is_making c__law_pairs_in c__law_works_in c__law_least_first c__law_is_plain
  have c__law_right := c__law_right (P := P) (w := w) (base := base) g D__law_right c__law_fours c__law_told c_order_paper c_ns c_is_order_paper c_is_n c__law_is_making c_is_order_making c_order_by_making ck_ns ck_is_order_paper ck_order_paper ck_order_making ck_order_by_making
  exact fm_law g c__law_pot c__law_made_order c__law_right c_order_making c__law_order F
def loose0 : List Str := ["__name__", "WebError", "StateError", "InvalidMaking", "InvalidOrder", "NotMade", "is_integer", "is_count", "is_below", "is_row", "is_rising", "ORDER", "MOST_WORKS", "is_pair_of", "are_closed", "is_order_of", "is_work_of", "works_of", "pairs_of", "is_ahead_of", "are_free_of", "want_order", "WORK", "BEHIND", "BESIDE", "MADE", "EN", "is_n_at", "is_n_of", "are_unpaired"]
def loose1 : List Str := ["ns_of", "works_in", "least_work", "is_node_of", "is_any_making", "pairs_in", "order_by_node", "is_making_of", "lots_of", "are_paired", "by_size_behind", "node_of", "making_of", "paper_of", "is_paper_of", "is_n", "is_order_making", "ns", "order_making", "order_by_making", "order_paper", "is_order_paper", "_law_pot", "_law_draw", "_law_pick", "_law_shuffled", "_law_closed", "_law_joined", "_law_order", "_law_node"]
def loose2 : List Str := ["_law_works_in", "_law_pairs_in", "_law_least_first", "_law_least_work", "_law_made_order", "_law_is_n", "_law_ahead", "_law_fours", "_law_told", "_law_is_making", "_law_is_plain", "_law_right"]
def loose : List Str := loose0 ++ loose1 ++ loose2
abbrev R : PySem.W.OpenRow := PySem.W.OpenLaw.row PySem.Challenge.rw_roadsbyturns_k70_whole_orders_made_or_wi
abbrev hk : PySem.W.Hook := hookE 5 fa fn ex
def ob (s : PySem.W.SharedT) : AlE := obsE 5 fa fn ex (HandSHeadRun.getT s)
theorem ob_eq (s : PySem.W.SharedT) : ob s = hk.obs s.abs := obsE_eq (HandSHeadRun.getT_eq s)
theorem run (w : World) : HandSHeadRun.RunEq R (PySem.W.view R.prog [76]) hk ob 4000 loose w := by
  intro os
  kernel_rfl
end Mo.K70
end
section
set_option autoImplicit false
set_option linter.all false
set_option Elab.async false
open PySem PySem.W PySem.Calls PyProof.Rows
set_option maxRecDepth 100000 in
set_option maxHeartbeats 0 in
theorem k70_of (law : ∀ ns : List Int, ns.length ≤ 63 → ∃ io, Mo.K70.s_law [.scr ns] = .ret (.bool true) io) : PySem.Challenge.rw_roadsbyturns_k70_whole_orders_made_or_wi.Holds := by
  w_on; o_law
  refine HandSHeadRun.head_any (r := OpenLaw.row PySem.Challenge.rw_roadsbyturns_k70_whole_orders_made_or_wi) (q := view (OpenLaw.row PySem.Challenge.rw_roadsbyturns_k70_whole_orders_made_or_wi).prog [76]) (H := Mo.K70.hk) (ob := Mo.K70.ob) (M := 4000) (loose := Mo.K70.loose) (d := HandSHeadRun.topDef (OpenLaw.row PySem.Challenge.rw_roadsbyturns_k70_whole_orders_made_or_wi).prog 76) (kwd := []) Mo.K70.ob_eq
    (by kernel_rfl) (fun s => by kernel_rfl) Mo.K70.run (by kernel_rfl) (by kernel_rfl) (by kernel_rfl) (by rfl) (by first | assumption | decide +kernel) (by decide +kernel) ⟨rfl, rfl, rfl, rfl, rfl, by decide +kernel⟩ ?hw ?hc
  case hw => w_witness2
  case hc =>
    refine Mo.walk_ofM (l := PySem.Challenge.rw_roadsbyturns_k70_whole_orders_made_or_wi) (n := 63) (k := 56) (x := "script") rfl (by decide) (by kernel_rfl) ⟨rfl, by decide, by decide⟩ ?F
    intro w mg fa h Y G hmg0
    obtain ⟨K, KX, c, cx⟩ := Y
    have hmg : mg ("law" : PySem.Str) = some (.ref fa) := by
      have e : (HandSHeadRun.topDef (OpenLaw.row PySem.Challenge.rw_roadsbyturns_k70_whole_orders_made_or_wi).prog 76).name = ("law" : PySem.Str) := by kernel_rfl
      rw [← e]
      exact hmg0
    obtain ⟨fd, F⟩ := c.def_ 59 (d := Mo.K70.d_ "law" 76) rfl
    have e := hmg.symm.trans (He.glo_ok KX G (c.fact 85 (f := .glo "law") rfl))
    cases e
    have hb := L2.FunD.bindsA (ps := ["script"]) F fun _ _ _ _ _ _ us hl => match us, hl with | [_], _ => rfl
    exact ⟨K, fd, Mo.spM K mg 1 Mo.K70.s_law, KX, fun s v => hb s [v] rfl, fun T a ns hl _ hS => Mo.sp_law (law ns hl) hS, fun base _ _ => Mo.K70.law_ok KX G c cx F⟩
end
open PySem PySem.W PySem.Calls PyProof.Rows
set_option maxRecDepth 100000 in
set_option maxHeartbeats 0 in
theorem PySem.Challenge.cw_roadsbyturns_k70_whole_orders_made_or_wi_holds : PySem.Challenge.rw_roadsbyturns_k70_whole_orders_made_or_wi.Holds := by
  exact k70_of fun ns _ => ⟨[], Mo.K70.e_law ns⟩
