import PyProof.Rows.All
import Wide.All
import OpenK.AllK
import Wide.FinOn
import PyProof.ReprReads
import PyProof.EqLayable
import HandS.ForMost
import HandS.TupAny
import HandS.Deep
import HandS.IsInst
import HandS.Style
import HandS.Conv
import HandS.Wide
import HandS.Ends
import HandS.Zip
import HandS.SortKw
import KE.GoesZip
import KE.GoesMore
import KE.GoesEnum
import KE.GoesEnumKw
import HandS.TupMul
import PyProof.CallFns
import HandS.Dict
import HandS.More
import HandS.Star
import HandS.SortInts
import KE.KTupSum
import KE.KIndexOf
import HandS.SetFor
import HandS.WordsDict
import PySem.Challenge.RW_heightnets_k22_stiff_papers_judged
import PyProof.Rows.ReprShort
/-! ## FwD -/
set_option linter.all false
/-! Data and the functional meaning of the constructs: no program in sight. -/
namespace Fw
open PySem

abbrev Key := Sum Int Str
inductive D where
  | non | bl (b : Bool) | int (i : Int) | str (s : Str) | lst (xs : List D) | tup (xs : List D) | dct (kvs : List (Key × D)) | obj (a : Nat)

abbrev LIM : Nat := 16777216

mutual
def D.py : D → PyData
  | .non => .none
  | .bl b => .bool b
  | .int i => .int i
  | .str s => .str s
  | .lst xs => .list (D.pys xs)
  | .tup xs => .tuple (D.pys xs)
  | .dct kvs => .dict (D.pyKv kvs)
  | .obj _ => .none
def D.pys : List D → List PyData
  | [] => []
  | x :: r => D.py x :: D.pys r
def D.pyKv : List (Key × D) → List (PyData × PyData)
  | [] => []
  | (k, v) :: r => ((match k with | .inl i => .int i | .inr x => .str x), D.py v) :: D.pyKv r
end
mutual
/-- no dict, no handle within -/
def D.pure : D → Bool
  | .lst xs => D.pures xs
  | .tup xs => D.pures xs
  | .dct _ => false
  | .obj _ => false
  | _ => true
def D.pures : List D → Bool
  | [] => true
  | x :: r => D.pure x && D.pures r
end
def D.eqOk (d : D) : Bool := d.pure && SeqAt.shaped d.py
def D.eqv (a b : D) : Bool := PyData.eqv a.py b.py

/-! ### operations on data -/
def dAdd : D → D → Option D
  | .int i, .int j => some (.int (i + j))
  | .lst a, .lst b => if a.length + b.length ≤ LIM then some (.lst (a ++ b)) else none
  | .tup a, .tup b => if a.length + b.length ≤ LIM then some (.tup (a ++ b)) else none
  | _, _ => none
def dSub : D → D → Option D
  | .int i, .int j => some (.int (i - j))
  | _, _ => none
def dMul : D → D → Option D
  | .int i, .int j => if (-(2 ^ 64) < i ∧ i < 2 ^ 64) ∨ (-(2 ^ 64) < j ∧ j < 2 ^ 64) then some (.int (i * j)) else none
  | .lst a, .int k => if -1000000 ≤ k ∧ k ≤ 1000000 ∧ a.length * k.toNat ≤ LIM then some (.lst (List.replicate k.toNat a).flatten) else none
  | .tup a, .int k => if -1000 ≤ k ∧ k ≤ 1000 ∧ a.length ≤ 1000 then some (.tup (List.replicate k.toNat a).flatten) else none
  | _, _ => none
def dFdiv : D → D → Option D
  | .int i, .int j => if 0 < j ∧ j < 1073741824 then some (.int (i / j)) else none
  | _, _ => none
def dMod : D → D → Option D
  | .int i, .int j => if 0 < j then some (.int (i % j)) else none
  | _, _ => none
def dPow : D → D → Option D
  | .int i, .int j => if 0 ≤ j ∧ j ≤ 1000000 ∧ i.natAbs < 2 ^ 64 then some (.int (i ^ j.toNat)) else none
  | _, _ => none
def dNeg : D → Option D
  | .int i => some (.int (-i))
  | _ => none
def dLt : D → D → Option D
  | .int i, .int j => some (.bl (decide (i < j)))
  | _, _ => none
def dLe : D → D → Option D
  | .int i, .int j => some (.bl (decide (i ≤ j)))
  | _, _ => none
def dGt : D → D → Option D
  | .int i, .int j => some (.bl (decide (j < i)))
  | _, _ => none
def dGe : D → D → Option D
  | .int i, .int j => some (.bl (decide (j ≤ i)))
  | _, _ => none
def dEq (a b : D) : Option D := if a.eqOk = true ∧ b.eqOk = true then some (.bl (D.eqv a b)) else none
def dNe (a b : D) : Option D := if a.eqOk = true ∧ b.eqOk = true then some (.bl (!D.eqv a b)) else none
def dIn (x : D) : D → Option D
  | .lst ds => if x.eqOk = true ∧ D.eqOk (.lst ds) = true then some (.bl (ds.any fun z => D.eqv z x)) else none
  | .tup ds => if x.eqOk = true ∧ D.eqOk (.tup ds) = true then some (.bl (ds.any fun z => D.eqv z x)) else none
  | _ => none
def dNot : D → Option D
  | .bl b => some (.bl (!b))
  | _ => none
def dNotIn (x y : D) : Option D := (dIn x y).bind dNot
def dIsN : D → Option D
  | .non => some (.bl true)
  | _ => some (.bl false)
def dNotN : D → Option D
  | .non => some (.bl false)
  | _ => some (.bl true)
def dIsB : D → D → Option D
  | .bl a, .bl b => some (.bl (decide (a = b)))
  | _, _ => none
/-- the place an index names -/
def ixD (n : Nat) (i : Int) : Option Nat := if 0 ≤ i then (if i < n then some i.toNat else none) else if -(n : Int) ≤ i then some (i + n).toNat else none
def atD {α : Type} (xs : List α) (i : Int) : Option α := (ixD xs.length i).bind fun j => xs[j]?
def dIx : D → D → Option D
  | .lst ds, .int i => atD ds i
  | .tup ds, .int i => atD ds i
  | _, _ => none
def sIxD (n d : Nat) : Option Int → Nat
  | none => d
  | some i => if 0 ≤ i then min i.toNat n else (i + n).toNat
def cutD {α : Type} (xs : List α) (lo hi : Option Int) : List α := (xs.drop (sIxD xs.length 0 lo)).take (sIxD xs.length xs.length hi - sIxD xs.length 0 lo)
def dCut (lo hi : Option Int) : D → Option D
  | .lst ds => some (.lst (cutD ds lo hi))
  | .tup ds => some (.tup (cutD ds lo hi))
  | _ => none
/-- xs[::-1] -/
def dRev : D → Option D
  | .lst ds => some (.lst ds.reverse)
  | .tup ds => some (.tup ds.reverse)
  | _ => none
def dLen : D → Option D
  | .lst ds => some (.int ds.length)
  | .tup ds => some (.int ds.length)
  | _ => none
def dMax2 : D → D → Option D
  | .int i, .int j => some (.int (if j > i then j else i))
  | _, _ => none
def dMin2 : D → D → Option D
  | .int i, .int j => some (.int (if j < i then j else i))
  | _, _ => none
def dAbs : D → Option D
  | .int i => some (.int (if i < 0 then -i else i))
  | _ => none
def dInt : D → Option D
  | .int i => some (.int i)
  | .bl b => some (.int (if b then 1 else 0))
  | _ => none
def D.int? : D → Option Int
  | .int i => some i
  | _ => none
def D.bool? : D → Option Bool
  | .bl b => some b
  | _ => none
def ints? : List D → Option (List Int)
  | [] => some []
  | x :: r => match x, ints? r with
    | .int i, some is => some (i :: is)
    | _, _ => none
def bools? : List D → Option (List Bool)
  | [] => some []
  | x :: r => match x, bools? r with
    | .bl i, some is => some (i :: is)
    | _, _ => none
def dSum : D → Option D
  | .lst ds => (ints? ds).map fun is => .int is.sum
  | _ => none
def dAll : D → Option D
  | .lst ds => (bools? ds).map fun bs => .bl (bs.all id)
  | _ => none
def dAny : D → Option D
  | .lst ds => (bools? ds).map fun bs => .bl (bs.any id)
  | _ => none
def maxL : List Int → Int
  | [] => 0
  | x :: r => r.foldl max x
def minL : List Int → Int
  | [] => 0
  | x :: r => r.foldl min x
def dMaxL : D → Option D
  | .lst (d :: ds) => (ints? (d :: ds)).map fun is => .int (maxL is)
  | .tup (d :: ds) => (ints? (d :: ds)).map fun is => .int (maxL is)
  | _ => none
def dMinL : D → Option D
  | .lst (d :: ds) => (ints? (d :: ds)).map fun is => .int (minL is)
  | .tup (d :: ds) => (ints? (d :: ds)).map fun is => .int (minL is)
  | _ => none
def dList : D → Option D
  | .lst ds => some (.lst ds)
  | .tup ds => some (.lst ds)
  | _ => none
def dTuple : D → Option D
  | .lst ds => some (.tup ds)
  | .tup ds => some (.tup ds)
  | _ => none
/-- isinstance(x, T), T a built-in class by its name -/
def dIsi (T : String) : D → Option D
  | .non => some (.bl (T == "NoneType"))
  | .bl _ => some (.bl (T == "bool" || T == "int"))
  | .int _ => some (.bl (T == "int"))
  | .str _ => some (.bl (T == "str"))
  | .lst _ => some (.bl (T == "list"))
  | .tup _ => some (.bl (T == "tuple"))
  | .dct _ => some (.bl (T == "dict"))
  | .obj _ => none
mutual
def D.showOk : D → Bool
  | .non | .bl _ | .str _ => true
  | .int i => decide (i.natAbs.log2 < 1920)
  | .lst ds => D.showOks ds
  | .tup ds => D.showOks ds
  | .dct kvs => kvs.isEmpty
  | .obj _ => false
def D.showOks : List D → Bool
  | [] => true
  | d :: r => d.showOk && D.showOks r
end
def D.reprOk (d : D) : Bool := d.showOk && decide (d.py.shown.length ≤ LIM) && decide (d.py.depth ≤ 60)
def dRepr (d : D) : Option D := if d.reprOk = true then some (.str d.py.shown) else none

/-! ### environments -/
/-- a slot: shared (never changed again), owned (a list that this frame alone holds) -/
inductive Sl where
  | sh (d : D) | ow (d : D)
abbrev Env := List (Option Sl)
def Sl.d : Sl → D
  | .sh d => d
  | .ow d => d
section
variable {S : Type}
abbrev E (S : Type) := Env → S → Option (D × Env × S)
abbrev T (S : Type) := Env → S → Option (Bool × Env × S)
abbrev As (S : Type) := Env → S → Option (List D × Env × S)
inductive Ctl where
  | nx | bk | ct | rt (d : D)
abbrev C (S : Type) := Env → S → Option (Ctl × Env × S)
abbrev Tg := D → Env → Option Env

def eC (d : D) : E S := fun ρ s => some (d, ρ, s)
/-- a name; an owned list that is read so is shared from then on -/
def eV (i : Nat) : E S := fun ρ s => match ρ[i]? with
  | some (some (.sh d)) => some (d, ρ, s)
  | some (some (.ow d)) => some (d, ρ.set i (some (.sh d)), s)
  | _ => none
def e1 (op : D → Option D) (a : E S) : E S := fun ρ s => match a ρ s with
  | some (x, ρ, s) => (match op x with | some z => some (z, ρ, s) | none => none)
  | none => none
def e2 (op : D → D → Option D) (a b : E S) : E S := fun ρ s => match a ρ s with
  | some (x, ρ, s) => (match b ρ s with
    | some (y, ρ, s) => (match op x y with | some z => some (z, ρ, s) | none => none)
    | none => none)
  | none => none
/-- an operation whose left (right) side is an owned list, looked at -/
def eB1 (op : D → Option D) (i : Nat) : E S := fun ρ s => match ρ[i]? with
  | some (some x) => (match op x.d with | some z => some (z, ρ, s) | none => none)
  | _ => none
def eBL (op : D → D → Option D) (i : Nat) (b : E S) : E S := fun ρ s => match ρ[i]? with
  | some (some _) => (match b ρ s with
    | some (y, ρ, s) => (match ρ[i]? with
      | some (some x) => (match op x.d y with | some z => some (z, ρ, s) | none => none)
      | _ => none)
    | none => none)
  | _ => none
def eBR (op : D → D → Option D) (a : E S) (i : Nat) : E S := fun ρ s => match a ρ s with
  | some (x, ρ, s) => (match ρ[i]? with
    | some (some y) => (match op x y.d with | some z => some (z, ρ, s) | none => none)
    | _ => none)
  | none => none
def tE (a : E S) : T S := fun ρ s => match a ρ s with
  | some (.bl b, ρ, s) => some (b, ρ, s)
  | _ => none
def tYes : T S := fun ρ s => some (true, ρ, s)
def tAnd (a b : T S) : T S := fun ρ s => match a ρ s with
  | some (true, ρ, s) => b ρ s
  | some (false, ρ, s) => some (false, ρ, s)
  | none => none
def tOr (a b : T S) : T S := fun ρ s => match a ρ s with
  | some (true, ρ, s) => some (true, ρ, s)
  | some (false, ρ, s) => b ρ s
  | none => none
def tNot (a : T S) : T S := fun ρ s => match a ρ s with
  | some (b, ρ, s) => some (!b, ρ, s)
  | none => none
def eAnd (a b : E S) : E S := fun ρ s => match a ρ s with
  | some (.bl true, ρ, s) => b ρ s
  | some (.bl false, ρ, s) => some (.bl false, ρ, s)
  | _ => none
def eOr (a b : E S) : E S := fun ρ s => match a ρ s with
  | some (.bl true, ρ, s) => some (.bl true, ρ, s)
  | some (.bl false, ρ, s) => b ρ s
  | _ => none
def eIf (t : T S) (a b : E S) : E S := fun ρ s => match t ρ s with
  | some (true, ρ, s) => a ρ s
  | some (false, ρ, s) => b ρ s
  | none => none
/-- a < b < c -/
def eChain (f g : D → D → Option D) (a b c : E S) : E S := fun ρ s => match a ρ s with
  | some (x, ρ, s) => (match b ρ s with
    | some (y, ρ, s) => (match f x y with
      | some (.bl true) => (match c ρ s with
        | some (z, ρ, s) => (match g y z with | some w => some (w, ρ, s) | none => none)
        | none => none)
      | some (.bl false) => some (.bl false, ρ, s)
      | _ => none)
    | none => none)
  | none => none
def aNil : As S := fun ρ s => some ([], ρ, s)
def aCons (a : E S) (r : As S) : As S := fun ρ s => match a ρ s with
  | some (x, ρ, s) => (match r ρ s with | some (xs, ρ, s) => some (x :: xs, ρ, s) | none => none)
  | none => none
def eTup (a : As S) : E S := fun ρ s => match a ρ s with
  | some (xs, ρ, s) => if xs.length ≤ LIM then some (.tup xs, ρ, s) else none
  | none => none
def eLst (a : As S) : E S := fun ρ s => match a ρ s with
  | some (xs, ρ, s) => if xs.length ≤ LIM then some (.lst xs, ρ, s) else none
  | none => none
def eCall (f : List D → S → Option (D × S)) (a : As S) : E S := fun ρ s => match a ρ s with
  | some (xs, ρ, s) => (match f xs s with | some (d, s) => some (d, ρ, s) | none => none)
  | none => none
def eCallP (f : List D → Option D) (a : As S) : E S := fun ρ s => match a ρ s with
  | some (xs, ρ, s) => (match f xs with | some d => some (d, ρ, s) | none => none)
  | none => none
/-- a part of a slice -/
def pNone : Env → S → Option (Option Int × Env × S) := fun ρ s => some (none, ρ, s)
def pSome (a : E S) : Env → S → Option (Option Int × Env × S) := fun ρ s => match a ρ s with
  | some (.int i, ρ, s) => some (some i, ρ, s)
  | _ => none
def eCut (a : E S) (lo hi : Env → S → Option (Option Int × Env × S)) : E S := fun ρ s => match a ρ s with
  | some (x, ρ, s) => (match lo ρ s with
    | some (l, ρ, s) => (match hi ρ s with
      | some (h, ρ, s) => (match dCut l h x with | some z => some (z, ρ, s) | none => none)
      | none => none)
    | none => none)
  | none => none

/-! ### what is walked -/
abbrev I (S : Type) := Env → S → Option (List D × Env × S)
def items? : D → Option (List D)
  | .lst ds => some ds
  | .tup ds => some ds
  | _ => none
def iE (a : E S) : I S := fun ρ s => match a ρ s with
  | some (x, ρ, s) => (match items? x with | some ds => some (ds, ρ, s) | none => none)
  | none => none
def rangeL (lo : Int) (n : Nat) : List D := (List.range n).map fun k => .int (lo + (k : Nat))
def iR1 (a : E S) : I S := fun ρ s => match a ρ s with
  | some (.int j, ρ, s) => if -16777216 ≤ j ∧ j ≤ 16777216 then some (rangeL 0 j.toNat, ρ, s) else none
  | _ => none
def iR2 (a b : E S) : I S := fun ρ s => match a ρ s with
  | some (.int i, ρ, s) => (match b ρ s with
    | some (.int j, ρ, s) => if -16777216 ≤ i ∧ i ≤ 16777216 ∧ -16777216 ≤ j ∧ j ≤ 16777216 ∧ j - i ≤ 16777216 then some (rangeL i (j - i).toNat, ρ, s) else none
    | _ => none)
  | _ => none
def enumL : Nat → List D → List D
  | _, [] => []
  | k, d :: r => .tup [.int (k : Nat), d] :: enumL (k + 1) r
def iEnum (a : E S) : I S := fun ρ s => match a ρ s with
  | some (x, ρ, s) => (match items? x with | some ds => some (enumL 0 ds, ρ, s) | none => none)
  | none => none
def zipL : List D → List D → List D
  | a :: r, b :: q => .tup [a, b] :: zipL r q
  | _, _ => []
def iZip (a b : E S) : I S := fun ρ s => match a ρ s with
  | some (x, ρ, s) => (match b ρ s with
    | some (y, ρ, s) => (match items? x, items? y with | some ds, some es => some (zipL ds es, ρ, s) | _, _ => none)
    | none => none)
  | none => none
/-- zip(a, b, strict=True): of one length -/
def iZipS (a b : E S) : I S := fun ρ s => match a ρ s with
  | some (x, ρ, s) => (match b ρ s with
    | some (y, ρ, s) => (match items? x, items? y with | some ds, some es => if ds.length = es.length then some (zipL ds es, ρ, s) else none | _, _ => none)
    | none => none)
  | none => none

/-! ### targets -/
def gN (i : Nat) : Tg := fun d ρ => some (ρ.set i (some (.sh d)))
def gNil : List D → Env → Option Env
  | [], ρ => some ρ
  | _, _ => none
def gCons (t : Tg) (u : List D → Env → Option Env) : List D → Env → Option Env
  | d :: r, ρ => (match t d ρ with | some ρ => u r ρ | none => none)
  | [], _ => none
def gTup (u : List D → Env → Option Env) : Tg
  | .tup ds, ρ => u ds ρ
  | _, _ => none

/-! ### comprehensions -/
def wipeE : List Nat → Env → Env
  | [], ρ => ρ
  | i :: r, ρ => wipeE r (ρ.set i none)
def backE (ρ0 : Env) : List Nat → Env → Env
  | [], ρ => ρ
  | i :: r, ρ => backE ρ0 r (ρ.set i (ρ0.getD i none))
def notOw (ρ : Env) (i : Nat) : Bool := match ρ[i]? with
  | some (some (.ow _)) => false
  | _ => true
def lcLoop (tgt : Tg) (tt : T S) (elt : E S) (own : List Nat) (ρ0 : Env) : List D → List D → Env → S → Option (List D × Env × S)
  | [], acc, ρ, s => some (acc, ρ, s)
  | d :: r, acc, ρ, s => match tgt d (wipeE own ρ) with
    | some ρ1 => (match tt ρ1 s with
      | some (true, ρ2, s2) => (match elt ρ2 s2 with
        | some (y, ρ3, s3) => lcLoop tgt tt elt own ρ0 r (acc ++ [y]) (backE ρ0 own ρ3) s3
        | none => none)
      | some (false, ρ2, s2) => lcLoop tgt tt elt own ρ0 r acc (backE ρ0 own ρ2) s2
      | none => none)
    | none => none
def eLc (it : I S) (tgt : Tg) (tt : T S) (elt : E S) (own : List Nat) : E S := fun ρ s => match it ρ s with
  | some (ds, ρ, s) => if own.all (notOw ρ) = true then (match lcLoop tgt tt elt own ρ ds [] ρ s with
      | some (acc, ρ, s) => some (.lst acc, ρ, s)
      | none => none) else none
  | none => none

/-! ### statements -/
def sNx : C S := fun ρ s => some (.nx, ρ, s)
def sSeq (a b : C S) : C S := fun ρ s => match a ρ s with
  | some (.nx, ρ, s) => b ρ s
  | some (c, ρ, s) => some (c, ρ, s)
  | none => none
def sAsg (a : E S) (g : Tg) : C S := fun ρ s => match a ρ s with
  | some (x, ρ, s) => (match g x ρ with | some ρ => some (.nx, ρ, s) | none => none)
  | none => none
/-- i = a new list, owned -/
def sNew (a : E S) (i : Nat) : C S := fun ρ s => match a ρ s with
  | some (x, ρ, s) => some (.nx, ρ.set i (some (.ow x)), s)
  | none => none
def sDrop (a : E S) : C S := fun ρ s => match a ρ s with
  | some (_, ρ, s) => some (.nx, ρ, s)
  | none => none
def sRet (a : E S) : C S := fun ρ s => match a ρ s with
  | some (x, ρ, s) => some (.rt x, ρ, s)
  | none => none
def sIf (t : T S) (a b : C S) : C S := fun ρ s => match t ρ s with
  | some (true, ρ, s) => a ρ s
  | some (false, ρ, s) => b ρ s
  | none => none
def sBk : C S := fun ρ s => some (.bk, ρ, s)
def sCt : C S := fun ρ s => some (.ct, ρ, s)
/-- x.append(e), x owned -/
def eApp (i : Nat) (a : E S) : E S := fun ρ s => match ρ[i]? with
  | some (some (.ow (.lst _))) => (match a ρ s with
    | some (x, ρ, s) => (match ρ[i]? with
      | some (some (.ow (.lst ds))) => if ds.length < LIM then some (.non, ρ.set i (some (.ow (.lst (ds ++ [x])))), s) else none
      | _ => none)
    | none => none)
  | _ => none
/-- x.pop(e), x owned -/
def ePopAt (i : Nat) (a : E S) : E S := fun ρ s => match ρ[i]? with
  | some (some (.ow (.lst _))) => (match a ρ s with
    | some (.int k, ρ, s) => (match ρ[i]? with
      | some (some (.ow (.lst ds))) => (match ixD ds.length k with
        | some j => (match ds[j]? with
          | some y => some (y, ρ.set i (some (.ow (.lst (ds.eraseIdx j)))), s)
          | none => none)
        | none => none)
      | _ => none)
    | _ => none)
  | _ => none
/-- x.pop() -/
def ePop (i : Nat) : E S := fun ρ s => match ρ[i]? with
  | some (some (.ow (.lst ds))) => (match ds[ds.length - 1]? with
    | some y => some (y, ρ.set i (some (.ow (.lst ds.dropLast))), s)
    | none => none)
  | _ => none
/-- x[k] = e, x owned: e first, then k -/
def sSetIx (a : E S) (i : Nat) (k : E S) : C S := fun ρ s => match a ρ s with
  | some (x, ρ, s) => (match ρ[i]? with
   | some (some (.ow (.lst _))) => (match k ρ s with
    | some (.int k, ρ, s) => (match ρ[i]? with
      | some (some (.ow (.lst ds))) => (match ixD ds.length k with
        | some j => some (.nx, ρ.set i (some (.ow (.lst (ds.set j x)))), s)
        | none => none)
      | _ => none)
    | _ => none)
   | _ => none)
  | none => none
def forL (tgt : Tg) (body : C S) (dead : List Nat) : List D → C S
  | [], ρ, s => some (.nx, ρ, s)
  | d :: r, ρ, s => match tgt d ρ with
    | some ρ => (match body ρ s with
      | some (.nx, ρ, s) => forL tgt body dead r (wipeE dead ρ) s
      | some (.ct, ρ, s) => forL tgt body dead r (wipeE dead ρ) s
      | some (.bk, ρ, s) => some (.nx, ρ, s)
      | some (.rt d, ρ, s) => some (.rt d, ρ, s)
      | none => none)
    | none => none
def sFor (it : I S) (tgt : Tg) (body : C S) (dead : List Nat) : C S := fun ρ s => match it ρ s with
  | some (ds, ρ, s) => forL tgt body dead ds (wipeE dead ρ) s
  | none => none
def whL (t : T S) (body : C S) (dead : List Nat) : Nat → C S
  | 0, _, _ => none
  | n + 1, ρ, s => match t ρ s with
    | some (true, ρ, s) => (match body ρ s with
      | some (.nx, ρ, s) => whL t body dead n (wipeE dead ρ) s
      | some (.ct, ρ, s) => whL t body dead n (wipeE dead ρ) s
      | some (.bk, ρ, s) => some (.nx, ρ, s)
      | some (.rt d, ρ, s) => some (.rt d, ρ, s)
      | none => none)
    | some (false, ρ, s) => some (.nx, ρ, s)
    | none => none
def sWh (fuel : Nat) (t : T S) (body : C S) (dead : List Nat) : C S := fun ρ s => whL t body dead fuel (wipeE dead ρ) s

def sAug (op : D → D → Option D) (i : Nat) (a : E S) : C S := fun ρ s => match ρ[i]? with
  | some (some (.sh x)) => (match a ρ s with
    | some (y, ρ, s) => (match op x y with | some z => some (.nx, ρ.set i (some (.sh z)), s) | none => none)
    | none => none)
  | _ => none
def dAddI : D → D → Option D
  | .int i, .int j => some (.int (i + j))
  | _, _ => none
/-- list(range(n)) -/
def eListR1 (a : E S) : E S := fun ρ s => match a ρ s with
  | some (.int j, ρ, s) => if -16777216 ≤ j ∧ j ≤ 16777216 then some (.lst (rangeL 0 j.toNat), ρ, s) else none
  | _ => none
/-! a, b = x, y: what is new is owned -/
abbrev Qs (S : Type) := Env → S → Option (List Sl × Env × S)
def qNil : Qs S := fun ρ s => some ([], ρ, s)
def qSh (a : E S) (r : Qs S) : Qs S := fun ρ s => match a ρ s with
  | some (x, ρ, s) => (match r ρ s with | some (xs, ρ, s) => some (.sh x :: xs, ρ, s) | none => none)
  | none => none
def qNew (a : E S) (r : Qs S) : Qs S := fun ρ s => match a ρ s with
  | some (x, ρ, s) => (match r ρ s with | some (xs, ρ, s) => some (.ow x :: xs, ρ, s) | none => none)
  | none => none
def setAll : List Nat → List Sl → Env → Env
  | i :: is, x :: xs, ρ => (setAll is xs ρ).set i (some x)
  | _, _, ρ => ρ
def sPar (is : List Nat) (q : Qs S) : C S := fun ρ s => match q ρ s with
  | some (xs, ρ, s) => if xs.length = is.length then some (.nx, setAll is xs ρ, s) else none
  | none => none

/-! ### a def -/
def runC (np n : Nat) (body : C S) : List D → S → Option (D × S) := fun ds s => if ds.length = np then
    (match body (ds.map (fun d => some (Sl.sh d)) ++ List.replicate (n - np) none) s with
      | some (.rt d, _, s) => some (d, s)
      | some (.nx, _, s) => some (.non, s)
      | _ => none) else none
def runP (np n : Nat) (body : C Unit) : List D → Option D := fun ds => (runC np n body ds ()).map (·.1)
end
end Fw
/-! ## Ev -/
set_option Elab.async false
set_option linter.all false
/-! What a mirror comes to, by what is wanted behind it. -/
namespace Fw
section
variable {S : Type} {ρ : Env} {s : S}
def wE (f : E S) (ρ : Env) (s : S) (Q : D → Env → S → Prop) : Prop := match f ρ s with
  | some (d, ρ, s) => Q d ρ s
  | none => False
def wT (f : T S) (ρ : Env) (s : S) (Q : Bool → Env → S → Prop) : Prop := match f ρ s with
  | some (d, ρ, s) => Q d ρ s
  | none => False
def wA (f : As S) (ρ : Env) (s : S) (Q : List D → Env → S → Prop) : Prop := match f ρ s with
  | some (d, ρ, s) => Q d ρ s
  | none => False
def wI (f : I S) (ρ : Env) (s : S) (Q : List D → Env → S → Prop) : Prop := match f ρ s with
  | some (d, ρ, s) => Q d ρ s
  | none => False
def wO (f : Env → S → Option (Option Int × Env × S)) (ρ : Env) (s : S) (Q : Option Int → Env → S → Prop) : Prop := match f ρ s with
  | some (d, ρ, s) => Q d ρ s
  | none => False
def wQ (f : Qs S) (ρ : Env) (s : S) (Q : List Sl → Env → S → Prop) : Prop := match f ρ s with
  | some (d, ρ, s) => Q d ρ s
  | none => False
def wS (f : C S) (ρ : Env) (s : S) (Q : Ctl → Env → S → Prop) : Prop := match f ρ s with
  | some (d, ρ, s) => Q d ρ s
  | none => False
/-- an operation's outcome -/
def wD {α : Type} (o : Option α) (Q : α → Prop) : Prop := match o with
  | some d => Q d
  | none => False
theorem wD_some {α : Type} {a : α} {Q : α → Prop} : wD (some a) Q = Q a := rfl
theorem wD_of {α : Type} {o : Option α} {a : α} {Q : α → Prop} (h : o = some a) (q : Q a) : wD o Q := by rw [h]; exact q
theorem wE_mono {f : E S} {Q Q' : D → Env → S → Prop} (h : wE f ρ s Q) (k : ∀ d ρ s, Q d ρ s → Q' d ρ s) : wE f ρ s Q' := by
  unfold wE at *
  cases e : f ρ s with
  | none => rw [e] at h; exact h
  | some t => rw [e] at h; exact k _ _ _ h
theorem wS_mono {f : C S} {Q Q' : Ctl → Env → S → Prop} (h : wS f ρ s Q) (k : ∀ d ρ s, Q d ρ s → Q' d ρ s) : wS f ρ s Q' := by
  unfold wS at *
  cases e : f ρ s with
  | none => rw [e] at h; exact h
  | some t => rw [e] at h; exact k _ _ _ h
theorem w_eC {d : D} {Q : D → Env → S → Prop} : wE (eC d) ρ s Q = Q d ρ s := rfl
theorem w_eV {i : Nat} {d : D} {Q : D → Env → S → Prop} (h : ρ[i]? = some (some (.sh d))) : wE (eV i) ρ s Q = Q d ρ s := by
  unfold wE eV; rw [h]
theorem w_eVo {i : Nat} {d : D} {Q : D → Env → S → Prop} (h : ρ[i]? = some (some (.ow d))) : wE (eV i) ρ s Q = Q d (ρ.set i (some (.sh d))) s := by
  unfold wE eV; rw [h]
theorem w_e1 {op : D → Option D} {a : E S} {Q : D → Env → S → Prop} : wE (e1 op a) ρ s Q = wE a ρ s fun x ρ s => wD (op x) fun z => Q z ρ s := by
  unfold wE e1
  cases a ρ s with
  | none => rfl
  | some t =>
    obtain ⟨x, ρ1, s1⟩ := t
    dsimp only
    cases op x <;> rfl
theorem w_e2 {op : D → D → Option D} {a b : E S} {Q : D → Env → S → Prop} : wE (e2 op a b) ρ s Q = wE a ρ s fun x ρ s => wE b ρ s fun y ρ s => wD (op x y) fun z => Q z ρ s := by
  unfold wE e2
  cases a ρ s with
  | none => rfl
  | some t =>
    obtain ⟨x, ρ1, s1⟩ := t
    dsimp only
    cases b ρ1 s1 with
    | none => rfl
    | some u =>
      obtain ⟨y, ρ2, s2⟩ := u
      dsimp only
      cases op x y <;> rfl
theorem w_eB1 {op : D → Option D} {i : Nat} {x : Sl} {Q : D → Env → S → Prop} (h : ρ[i]? = some (some x)) : wE (eB1 op i) ρ s Q = wD (op x.d) fun z => Q z ρ s := by
  unfold wE eB1
  rw [h]
  dsimp only
  cases op x.d <;> rfl
theorem w_eBL {op : D → D → Option D} {i : Nat} {b : E S} {x : Sl} {Q : D → Env → S → Prop} (h : ρ[i]? = some (some x)) : wE (eBL op i b) ρ s Q = wE b ρ s fun y ρ s => wD (match ρ[i]? with | some (some x) => op x.d y | _ => none) fun z => Q z ρ s := by
  unfold wE eBL
  rw [h]
  dsimp only
  cases b ρ s with
  | none => rfl
  | some t =>
    obtain ⟨y, ρ1, s1⟩ := t
    dsimp only
    cases ρ1[i]? with
    | none => rfl
    | some o =>
      cases o with
      | none => rfl
      | some x => dsimp only; cases op x.d y <;> rfl
theorem w_eBR {op : D → D → Option D} {i : Nat} {a : E S} {Q : D → Env → S → Prop} : wE (eBR op a i) ρ s Q = wE a ρ s fun x ρ s => wD (match ρ[i]? with | some (some y) => op x y.d | _ => none) fun z => Q z ρ s := by
  unfold wE eBR
  cases a ρ s with
  | none => rfl
  | some t =>
    obtain ⟨y, ρ1, s1⟩ := t
    dsimp only
    cases ρ1[i]? with
    | none => rfl
    | some o =>
      cases o with
      | none => rfl
      | some x => dsimp only; cases op y x.d <;> rfl
def isB (d : D) (Q : Bool → Prop) : Prop := match d with
  | .bl b => Q b
  | _ => False
theorem isB_bl {b : Bool} {Q : Bool → Prop} : isB (.bl b) Q = Q b := rfl
theorem w_tE {a : E S} {Q : Bool → Env → S → Prop} : wT (tE a) ρ s Q = wE a ρ s fun x ρ s => isB x fun b => Q b ρ s := by
  unfold wT wE tE
  cases a ρ s with
  | none => rfl
  | some t =>
    obtain ⟨d, ρ1, s1⟩ := t
    cases d <;> rfl
theorem w_tYes {Q : Bool → Env → S → Prop} : wT tYes ρ s Q = Q true ρ s := rfl
theorem w_tAnd {a b : T S} {Q : Bool → Env → S → Prop} : wT (tAnd a b) ρ s Q = wT a ρ s fun x ρ s => if x = true then wT b ρ s Q else Q false ρ s := by
  unfold wT tAnd
  cases a ρ s with
  | none => rfl
  | some t =>
    obtain ⟨d, ρ1, s1⟩ := t
    cases d <;> simp
theorem w_tOr {a b : T S} {Q : Bool → Env → S → Prop} : wT (tOr a b) ρ s Q = wT a ρ s fun x ρ s => if x = true then Q true ρ s else wT b ρ s Q := by
  unfold wT tOr
  cases a ρ s with
  | none => rfl
  | some t =>
    obtain ⟨d, ρ1, s1⟩ := t
    cases d <;> simp
theorem w_tNot {a : T S} {Q : Bool → Env → S → Prop} : wT (tNot a) ρ s Q = wT a ρ s fun x ρ s => Q (!x) ρ s := by
  unfold wT tNot
  cases a ρ s <;> rfl
theorem w_eAnd {a b : E S} {Q : D → Env → S → Prop} : wE (eAnd a b) ρ s Q = wE a ρ s fun x ρ s => isB x fun c => if c = true then wE b ρ s Q else Q (.bl false) ρ s := by
  unfold wE eAnd
  cases a ρ s with
  | none => rfl
  | some t =>
    obtain ⟨d, ρ1, s1⟩ := t
    cases d with
    | bl c => cases c <;> simp [isB]
    | _ => rfl
theorem w_eOr {a b : E S} {Q : D → Env → S → Prop} : wE (eOr a b) ρ s Q = wE a ρ s fun x ρ s => isB x fun c => if c = true then Q (.bl true) ρ s else wE b ρ s Q := by
  unfold wE eOr
  cases a ρ s with
  | none => rfl
  | some t =>
    obtain ⟨d, ρ1, s1⟩ := t
    cases d with
    | bl c => cases c <;> simp [isB]
    | _ => rfl
theorem w_eIf {t : T S} {a b : E S} {Q : D → Env → S → Prop} : wE (eIf t a b) ρ s Q = wT t ρ s fun c ρ s => if c = true then wE a ρ s Q else wE b ρ s Q := by
  unfold wE wT eIf
  cases t ρ s with
  | none => rfl
  | some u =>
    obtain ⟨d, ρ1, s1⟩ := u
    cases d <;> simp
theorem w_eChain {f g : D → D → Option D} {a b c : E S} {Q : D → Env → S → Prop} : wE (eChain f g a b c) ρ s Q = wE a ρ s fun x ρ s => wE b ρ s fun y ρ s => wD (f x y) fun u => isB u fun k => if k = true then wE c ρ s (fun z ρ s => wD (g y z) fun w => Q w ρ s) else Q (.bl false) ρ s := by
  unfold wE eChain
  cases a ρ s with
  | none => rfl
  | some t =>
    obtain ⟨x, ρ1, s1⟩ := t
    dsimp only
    cases b ρ1 s1 with
    | none => rfl
    | some u =>
      obtain ⟨y, ρ2, s2⟩ := u
      dsimp only
      cases f x y with
      | none => rfl
      | some k =>
        cases k with
        | bl k =>
          cases k with
          | false => simp [wD, isB]
          | true =>
            simp only [wD, isB, if_true]
            cases c ρ2 s2 with
            | none => rfl
            | some w =>
              obtain ⟨z, ρ3, s3⟩ := w
              dsimp only
              cases g y z <;> rfl
        | _ => rfl
theorem w_aNil {Q : List D → Env → S → Prop} : wA aNil ρ s Q = Q [] ρ s := rfl
theorem w_aCons {a : E S} {r : As S} {Q : List D → Env → S → Prop} : wA (aCons a r) ρ s Q = wE a ρ s fun x ρ s => wA r ρ s fun xs ρ s => Q (x :: xs) ρ s := by
  unfold wA wE aCons
  cases a ρ s with
  | none => rfl
  | some t =>
    obtain ⟨x, ρ1, s1⟩ := t
    dsimp only
    cases r ρ1 s1 <;> rfl
theorem w_eTup {r : As S} {Q : D → Env → S → Prop} : wE (eTup r) ρ s Q = wA r ρ s fun xs ρ s => wD (if xs.length ≤ LIM then some xs else none) fun xs => Q (.tup xs) ρ s := by
  unfold wE wA eTup
  cases r ρ s with
  | none => rfl
  | some t =>
    obtain ⟨x, ρ1, s1⟩ := t
    dsimp only
    by_cases hc : x.length ≤ LIM
    · rw [if_pos hc, if_pos hc]; rfl
    · rw [if_neg hc, if_neg hc]; rfl

theorem w_eLst {r : As S} {Q : D → Env → S → Prop} : wE (eLst r) ρ s Q = wA r ρ s fun xs ρ s => wD (if xs.length ≤ LIM then some xs else none) fun xs => Q (.lst xs) ρ s := by
  unfold wE wA eLst
  cases r ρ s with
  | none => rfl
  | some t =>
    obtain ⟨x, ρ1, s1⟩ := t
    dsimp only
    by_cases hc : x.length ≤ LIM
    · rw [if_pos hc, if_pos hc]; rfl
    · rw [if_neg hc, if_neg hc]; rfl
theorem w_eCall {f : List D → S → Option (D × S)} {a : As S} {Q : D → Env → S → Prop} : wE (eCall f a) ρ s Q = wA a ρ s fun xs ρ s => wD (f xs s) fun p => Q p.1 ρ p.2 := by
  unfold wE wA eCall
  cases a ρ s with
  | none => rfl
  | some t =>
    obtain ⟨x, ρ1, s1⟩ := t
    dsimp only
    cases f x s1 <;> rfl
theorem w_eCallP {f : List D → Option D} {a : As S} {Q : D → Env → S → Prop} : wE (eCallP f a) ρ s Q = wA a ρ s fun xs ρ s => wD (f xs) fun d => Q d ρ s := by
  unfold wE wA eCallP
  cases a ρ s with
  | none => rfl
  | some t =>
    obtain ⟨x, ρ1, s1⟩ := t
    dsimp only
    cases f x <;> rfl
theorem w_pNone {Q : Option Int → Env → S → Prop} : wO pNone ρ s Q = Q none ρ s := rfl
def isI (d : D) (Q : Int → Prop) : Prop := match d with
  | .int b => Q b
  | _ => False
theorem isI_int {b : Int} {Q : Int → Prop} : isI (.int b) Q = Q b := rfl
theorem w_pSome {a : E S} {Q : Option Int → Env → S → Prop} : wO (pSome a) ρ s Q = wE a ρ s fun x ρ s => isI x fun i => Q (some i) ρ s := by
  unfold wO wE pSome
  cases a ρ s with
  | none => rfl
  | some t =>
    obtain ⟨x, ρ1, s1⟩ := t
    cases x <;> rfl
theorem w_eCut {a : E S} {lo hi : Env → S → Option (Option Int × Env × S)} {Q : D → Env → S → Prop} : wE (eCut a lo hi) ρ s Q = wE a ρ s fun x ρ s => wO lo ρ s fun l ρ s => wO hi ρ s fun h ρ s => wD (dCut l h x) fun z => Q z ρ s := by
  unfold wE wO eCut
  cases a ρ s with
  | none => rfl
  | some t =>
    obtain ⟨x, ρ1, s1⟩ := t
    dsimp only
    cases lo ρ1 s1 with
    | none => rfl
    | some u =>
      obtain ⟨l, ρ2, s2⟩ := u
      dsimp only
      cases hi ρ2 s2 with
      | none => rfl
      | some v =>
        obtain ⟨h, ρ3, s3⟩ := v
        dsimp only
        cases dCut l h x <;> rfl
theorem w_iE {a : E S} {Q : List D → Env → S → Prop} : wI (iE a) ρ s Q = wE a ρ s fun x ρ s => wD (items? x) fun ds => Q ds ρ s := by
  unfold wI wE iE
  cases a ρ s with
  | none => rfl
  | some t =>
    obtain ⟨x, ρ1, s1⟩ := t
    dsimp only
    cases items? x <;> rfl
theorem w_iR1 {a : E S} {Q : List D → Env → S → Prop} : wI (iR1 a) ρ s Q = wE a ρ s fun x ρ s => isI x fun j => wD (if -16777216 ≤ j ∧ j ≤ 16777216 then some (rangeL 0 j.toNat) else none) fun ds => Q ds ρ s := by
  unfold wI wE iR1
  cases a ρ s with
  | none => rfl
  | some t =>
    obtain ⟨x, ρ1, s1⟩ := t
    cases x with
    | int j =>
      simp only [isI]
      by_cases hc : -16777216 ≤ j ∧ j ≤ 16777216
      · rw [if_pos hc, if_pos hc]; rfl
      · rw [if_neg hc, if_neg hc]; rfl
    | _ => rfl
theorem w_iR2 {a b : E S} {Q : List D → Env → S → Prop} : wI (iR2 a b) ρ s Q = wE a ρ s fun x ρ s => isI x fun i => wE b ρ s fun y ρ s => isI y fun j => wD (if -16777216 ≤ i ∧ i ≤ 16777216 ∧ -16777216 ≤ j ∧ j ≤ 16777216 ∧ j - i ≤ 16777216 then some (rangeL i (j - i).toNat) else none) fun ds => Q ds ρ s := by
  unfold wI wE iR2
  cases a ρ s with
  | none => rfl
  | some t =>
    obtain ⟨x, ρ1, s1⟩ := t
    cases x with
    | int i =>
      simp only [isI]
      cases b ρ1 s1 with
      | none => rfl
      | some u =>
        obtain ⟨y, ρ2, s2⟩ := u
        cases y with
        | int j =>
          dsimp only
          by_cases hc : -16777216 ≤ i ∧ i ≤ 16777216 ∧ -16777216 ≤ j ∧ j ≤ 16777216 ∧ j - i ≤ 16777216
          · rw [if_pos hc, if_pos hc]; rfl
          · rw [if_neg hc, if_neg hc]; rfl
        | _ => rfl
    | _ => rfl
theorem w_iEnum {a : E S} {Q : List D → Env → S → Prop} : wI (iEnum a) ρ s Q = wE a ρ s fun x ρ s => wD (items? x) fun ds => Q (enumL 0 ds) ρ s := by
  unfold wI wE iEnum
  cases a ρ s with
  | none => rfl
  | some t =>
    obtain ⟨x, ρ1, s1⟩ := t
    dsimp only
    cases items? x <;> rfl
theorem w_iZipS {a b : E S} {Q : List D → Env → S → Prop} : wI (iZipS a b) ρ s Q = wE a ρ s fun x ρ s => wE b ρ s fun y ρ s => wD (items? x) fun ds => wD (items? y) fun es => wD (if ds.length = es.length then some (zipL ds es) else none) fun z => Q z ρ s := by
  unfold wI wE iZipS
  cases a ρ s with
  | none => rfl
  | some t =>
    obtain ⟨x, ρ1, s1⟩ := t
    dsimp only
    cases b ρ1 s1 with
    | none => rfl
    | some u =>
      obtain ⟨y, ρ2, s2⟩ := u
      dsimp only
      cases items? x with
      | none => rfl
      | some ds =>
        cases items? y with
        | none => rfl
        | some es =>
          simp only [wD]
          by_cases hc : ds.length = es.length
          · rw [if_pos hc, if_pos hc]
          · rw [if_neg hc, if_neg hc]
/-! ### comprehensions -/
/-- each item gives an entry (or none), whatever has come; the state may move, what stands of it (I) -/
theorem w_lc {it : I S} {tgt : Tg} {tt : T S} {elt : E S} {own : List Nat} {Q : D → Env → S → Prop} {I : S → Prop} {P : List D → List D → Prop}
    (h : wI it ρ s fun ds ρ1 s1 => ρ1 = ρ ∧ I s1 ∧ own.all (notOw ρ) = true ∧ P [] [] ∧
      (∀ (pre : List D) (d : D) (post : List D) (acc : List D) (s : S), ds = pre ++ d :: post → P pre acc → I s → ∃ ρt, tgt d (wipeE own ρ) = some ρt ∧
        wT tt ρt s fun b ρ2 s2 => if b = true then wE elt ρ2 s2 (fun y ρ3 s3 => P (pre ++ [d]) (acc ++ [y]) ∧ I s3 ∧ backE ρ own ρ3 = ρ) else P (pre ++ [d]) acc ∧ I s2 ∧ backE ρ own ρ2 = ρ) ∧
      ∀ acc s', P ds acc → I s' → Q (.lst acc) ρ s') : wE (eLc it tgt tt elt own) ρ s Q := by
  unfold wI at h
  unfold wE eLc
  cases e : it ρ s with
  | none => rw [e] at h; exact h.elim
  | some t =>
    obtain ⟨ds, ρ1, s1⟩ := t
    rw [e] at h
    obtain ⟨rfl, hI, hown, hP, hstep, hfin⟩ := h
    dsimp only
    rw [if_pos hown]
    have key : ∀ (post pre acc : List D) (s : S), ds = pre ++ post → P pre acc → I s → ∃ acc' s', lcLoop tgt tt elt own ρ1 post acc ρ1 s = some (acc', ρ1, s') ∧ P ds acc' ∧ I s' := fun post => by
      induction post with
      | nil =>
        intro pre acc s hd hp hi
        rw [List.append_nil] at hd
        subst hd
        exact ⟨acc, s, rfl, hp, hi⟩
      | cons d post ih =>
        intro pre acc s hd hp hi
        obtain ⟨ρt, e1, h1⟩ := hstep pre d post acc s hd hp hi
        have hd' : ds = (pre ++ [d]) ++ post := by rw [hd, List.append_assoc]; rfl
        unfold lcLoop
        rw [e1]
        dsimp only
        unfold wT at h1
        cases e2 : tt ρt s with
        | none => rw [e2] at h1; exact h1.elim
        | some t =>
          obtain ⟨b, ρ2, s2⟩ := t
          rw [e2] at h1
          cases b with
          | true =>
            simp only [if_true] at h1
            unfold wE at h1
            cases e3 : elt ρ2 s2 with
            | none => rw [e3] at h1; exact h1.elim
            | some t =>
              obtain ⟨y, ρ3, s3⟩ := t
              rw [e3] at h1
              obtain ⟨p1, i1, b1⟩ := h1
              obtain ⟨acc', s', q1, q2, q3⟩ := ih (pre ++ [d]) (acc ++ [y]) s3 hd' p1 i1
              refine ⟨acc', s', ?_, q2, q3⟩
              simp only [e3]
              rw [b1]
              exact q1
          | false =>
            simp only [Bool.false_eq_true, if_false] at h1
            obtain ⟨p1, i1, b1⟩ := h1
            obtain ⟨acc', s', q1, q2, q3⟩ := ih (pre ++ [d]) acc s2 hd' p1 i1
            refine ⟨acc', s', ?_, q2, q3⟩
            simp only
            rw [b1]
            exact q1
    obtain ⟨acc', s', q1, q2, q3⟩ := key ds [] [] s1 rfl hP hI
    rw [q1]
    exact hfin acc' s' q2 q3
/-! ### statements -/
theorem w_sNx {Q : Ctl → Env → S → Prop} : wS sNx ρ s Q = Q .nx ρ s := rfl
theorem w_sRet {a : E S} {Q : Ctl → Env → S → Prop} : wS (sRet a) ρ s Q = wE a ρ s fun x ρ s => Q (.rt x) ρ s := by
  unfold wS wE sRet
  cases a ρ s <;> rfl
theorem w_sSeq {a b : C S} {Q : Ctl → Env → S → Prop} : wS (sSeq a b) ρ s Q = wS a ρ s fun c ρ s => match c with | .nx => wS b ρ s Q | c => Q c ρ s := by
  unfold wS sSeq
  cases a ρ s with
  | none => rfl
  | some t =>
    obtain ⟨c, ρ1, s1⟩ := t
    cases c <;> rfl
theorem w_sAsg {a : E S} {g : Tg} {Q : Ctl → Env → S → Prop} : wS (sAsg a g) ρ s Q = wE a ρ s fun x ρ s => wD (g x ρ) fun ρ => Q .nx ρ s := by
  unfold wS wE sAsg
  cases a ρ s with
  | none => rfl
  | some t =>
    obtain ⟨c, ρ1, s1⟩ := t
    dsimp only
    cases g c ρ1 <;> rfl
theorem w_sNew {a : E S} {i : Nat} {Q : Ctl → Env → S → Prop} : wS (sNew a i) ρ s Q = wE a ρ s fun x ρ s => Q .nx (ρ.set i (some (.ow x))) s := by
  unfold wS wE sNew
  cases a ρ s <;> rfl
theorem w_sDrop {a : E S} {Q : Ctl → Env → S → Prop} : wS (sDrop a) ρ s Q = wE a ρ s fun _ ρ s => Q .nx ρ s := by
  unfold wS wE sDrop
  cases a ρ s <;> rfl
theorem w_sIf {t : T S} {a b : C S} {Q : Ctl → Env → S → Prop} : wS (sIf t a b) ρ s Q = wT t ρ s fun c ρ s => if c = true then wS a ρ s Q else wS b ρ s Q := by
  unfold wS wT sIf
  cases t ρ s with
  | none => rfl
  | some u =>
    obtain ⟨d, ρ1, s1⟩ := u
    cases d <;> simp
theorem w_qNil {Q : List Sl → Env → S → Prop} : wQ qNil ρ s Q = Q [] ρ s := rfl
theorem w_qSh {a : E S} {r : Qs S} {Q : List Sl → Env → S → Prop} : wQ (qSh a r) ρ s Q = wE a ρ s fun x ρ s => wQ r ρ s fun xs ρ s => Q (.sh x :: xs) ρ s := by
  unfold wQ wE qSh
  cases a ρ s with
  | none => rfl
  | some t =>
    obtain ⟨x, ρ1, s1⟩ := t
    dsimp only
    cases r ρ1 s1 <;> rfl
theorem w_qNew {a : E S} {r : Qs S} {Q : List Sl → Env → S → Prop} : wQ (qNew a r) ρ s Q = wE a ρ s fun x ρ s => wQ r ρ s fun xs ρ s => Q (.ow x :: xs) ρ s := by
  unfold wQ wE qNew
  cases a ρ s with
  | none => rfl
  | some t =>
    obtain ⟨x, ρ1, s1⟩ := t
    dsimp only
    cases r ρ1 s1 <;> rfl
theorem w_sPar {is : List Nat} {q : Qs S} {Q : Ctl → Env → S → Prop} : wS (sPar is q) ρ s Q = wQ q ρ s fun xs ρ s => wD (if xs.length = is.length then some xs else none) fun xs => Q .nx (setAll is xs ρ) s := by
  unfold wS wQ sPar
  cases q ρ s with
  | none => rfl
  | some t =>
    obtain ⟨x, ρ1, s1⟩ := t
    dsimp only
    by_cases hc : x.length = is.length
    · rw [if_pos hc, if_pos hc]; rfl
    · rw [if_neg hc, if_neg hc]; rfl
/-- a loop: J k: what stands of the frame's slots and of the state ahead of turn k -/
theorem w_sFor {it : I S} {tgt : Tg} {body : C S} {dead : List Nat} {Q : Ctl → Env → S → Prop}
    (h : wI it ρ s fun ds ρ1 s1 => ∃ J : Nat → Env → S → Prop, J 0 (wipeE dead ρ1) s1 ∧
      (∀ (k : Nat) (d : D) ρ s, ds[k]? = some d → J k ρ s → ∃ ρt, tgt d ρ = some ρt ∧ wS body ρt s fun c ρ s => match c with
        | .nx => J (k + 1) (wipeE dead ρ) s | .ct => J (k + 1) (wipeE dead ρ) s | .bk => Q .nx ρ s | .rt d => Q (.rt d) ρ s) ∧
      ∀ ρ s, J ds.length ρ s → Q .nx ρ s) : wS (sFor it tgt body dead) ρ s Q := by
  unfold wI at h
  unfold wS sFor
  cases e : it ρ s with
  | none => rw [e] at h; exact h.elim
  | some t =>
    obtain ⟨ds, ρ1, s1⟩ := t
    rw [e] at h
    obtain ⟨J, h0, hs, hf⟩ := h
    dsimp only
    have key : ∀ (post : List D) (k : Nat) ρ s, ds.drop k = post → k ≤ ds.length → J k ρ s → (match forL tgt body dead post ρ s with
        | some (c, ρ, s) => Q c ρ s
        | none => False) := fun post => by
      induction post with
      | nil =>
        intro k ρ s hd hk hj
        have : k = ds.length := by
          have := congrArg List.length hd
          simp at this
          omega
        subst this
        exact hf ρ s hj
      | cons d post ih =>
        intro k ρ s hd hk hj
        have hdk : ds[k]? = some d := by
          have := congrArg (fun l => l[0]?) hd
          simpa using this
        have hd2 : ds.drop (k + 1) = post := by
          have := congrArg List.tail hd
          simpa [List.tail_drop] using this
        have hk2 : k + 1 ≤ ds.length := (List.getElem?_eq_some_iff.mp hdk).1
        obtain ⟨ρt, e1, h1⟩ := hs k d ρ s hdk hj
        unfold forL
        rw [e1]
        dsimp only
        unfold wS at h1
        cases e2 : body ρt s with
        | none => rw [e2] at h1; exact h1.elim
        | some t =>
          obtain ⟨c, ρ2, s2⟩ := t
          rw [e2] at h1
          cases c with
          | nx => exact ih (k + 1) _ _ hd2 hk2 h1
          | ct => exact ih (k + 1) _ _ hd2 hk2 h1
          | bk => exact h1
          | rt d => exact h1
    exact key ds 0 _ _ (by simp) (Nat.zero_le _) h0
theorem run_C {np n : Nat} {body : C S} {ds : List D} {Q : D → S → Prop} (hl : ds.length = np)
    (h : wS body (ds.map (fun d => some (Sl.sh d)) ++ List.replicate (n - np) none) s fun c _ s => match c with | .rt d => Q d s | .nx => Q .non s | _ => False) : wD (runC np n body ds s) fun p => Q p.1 p.2 := by
  unfold runC
  rw [if_pos hl]
  unfold wS at h
  cases e : body (ds.map (fun d => some (Sl.sh d)) ++ List.replicate (n - np) none) s with
  | none => rw [e] at h; exact h.elim
  | some t =>
    obtain ⟨c, ρ2, s2⟩ := t
    rw [e] at h
    cases c <;> first | exact h | exact h.elim
theorem run_P {np n : Nat} {body : C Unit} {ds : List D} {Q : D → Prop} (hl : ds.length = np)
    (h : wS body (ds.map (fun d => some (Sl.sh d)) ++ List.replicate (n - np) none) () fun c _ _ => match c with | .rt d => Q d | .nx => Q .non | _ => False) : wD (runP np n body ds) Q := by
  have := run_C (s := ()) (Q := fun d _ => Q d) hl h
  unfold runP
  cases e : runC np n body ds () with
  | none => rw [e] at this; exact this.elim
  | some t => rw [e] at this; exact this

def slotE (o : Option (Option Sl)) (Q R : D → Prop) : Prop := match o with
  | some (some (.sh d)) => Q d
  | some (some (.ow d)) => R d
  | _ => False
theorem slotE_sh {d : D} {Q R : D → Prop} : slotE (some (some (.sh d))) Q R = Q d := rfl
theorem slotE_ow {d : D} {Q R : D → Prop} : slotE (some (some (.ow d))) Q R = R d := rfl
def slotX (o : Option (Option Sl)) (Q : D → Prop) : Prop := match o with
  | some (some x) => Q x.d
  | _ => False
theorem slotX_sh {d : D} {Q : D → Prop} : slotX (some (some (.sh d))) Q = Q d := rfl
theorem slotX_ow {d : D} {Q : D → Prop} : slotX (some (some (.ow d))) Q = Q d := rfl
theorem v_eV {i : Nat} {Q : D → Env → S → Prop} : wE (eV i) ρ s Q = slotE ρ[i]? (fun d => Q d ρ s) fun d => Q d (ρ.set i (some (.sh d))) s := by
  unfold wE eV slotE
  cases ρ[i]? with
  | none => rfl
  | some o =>
    cases o with
    | none => rfl
    | some x => cases x <;> rfl
theorem v_eB1 {op : D → Option D} {i : Nat} {Q : D → Env → S → Prop} : wE (eB1 op i) ρ s Q = slotX ρ[i]? fun x => wD (op x) fun z => Q z ρ s := by
  unfold wE eB1 slotX
  cases ρ[i]? with
  | none => rfl
  | some o =>
    cases o with
    | none => rfl
    | some x => dsimp only; cases op x.d <;> rfl
theorem v_eBL {op : D → D → Option D} {i : Nat} {b : E S} {Q : D → Env → S → Prop} : wE (eBL op i b) ρ s Q = slotX ρ[i]? fun _ => wE b ρ s fun y ρ s => slotX ρ[i]? fun x => wD (op x y) fun z => Q z ρ s := by
  unfold wE eBL slotX
  cases ρ[i]? with
  | none => rfl
  | some o =>
    cases o with
    | none => rfl
    | some x =>
      dsimp only
      cases b ρ s with
      | none => rfl
      | some t =>
        obtain ⟨y, ρ1, s1⟩ := t
        dsimp only
        cases ρ1[i]? with
        | none => rfl
        | some o =>
          cases o with
          | none => rfl
          | some x => dsimp only; cases op x.d y <;> rfl
theorem v_eBR {op : D → D → Option D} {i : Nat} {a : E S} {Q : D → Env → S → Prop} : wE (eBR op a i) ρ s Q = wE a ρ s fun x ρ s => slotX ρ[i]? fun y => wD (op x y) fun z => Q z ρ s := by
  unfold wE eBR slotX
  cases a ρ s with
  | none => rfl
  | some t =>
    obtain ⟨y, ρ1, s1⟩ := t
    dsimp only
    cases ρ1[i]? with
    | none => rfl
    | some o =>
      cases o with
      | none => rfl
      | some x => dsimp only; cases op y x.d <;> rfl
theorem wD_eq {α : Type} {o : Option α} {a : α} (h : wD o fun x => x = a) : o = some a := by
  cases o with
  | none => exact h.elim
  | some x => exact congrArg some h
theorem wD_ex {α : Type} {o : Option α} {Q : α → Prop} (h : wD o Q) : ∃ a, o = some a ∧ Q a := by
  cases o with
  | none => exact h.elim
  | some x => exact ⟨x, rfl, h⟩

def ownL (o : Option (Option Sl)) (Q : List D → Prop) : Prop := match o with
  | some (some (.ow (.lst ds))) => Q ds
  | _ => False
theorem ownL_ow {ds : List D} {Q : List D → Prop} : ownL (some (some (.ow (.lst ds)))) Q = Q ds := rfl
theorem v_eApp {i : Nat} {a : E S} {Q : D → Env → S → Prop} : wE (eApp i a) ρ s Q = ownL ρ[i]? fun _ => wE a ρ s fun x ρ s => ownL ρ[i]? fun ds => ds.length < LIM ∧ Q .non (ρ.set i (some (.ow (.lst (ds ++ [x]))))) s := by
  have bad : ∀ {o : Option (Option Sl)}, (∀ ds, o ≠ some (some (.ow (.lst ds)))) → ∀ Q, ownL o Q = False := fun {o} h Q => by
    unfold ownL
    split
    · rename_i ds
      exact absurd rfl (h ds)
    · rfl
  unfold wE eApp
  split
  · rename_i d ρ1 s1 e
    split at e
    · rename_i ds0 h0
      rw [h0, ownL_ow]
      split at e
      · rename_i x ρ2 s2 h1
        try rw [h1]
        try dsimp only
        split at e
        · rename_i ds h2
          rw [h2, ownL_ow]
          split at e
          · rename_i hl
            cases e
            exact propext ⟨fun q => ⟨hl, q⟩, fun q => q.2⟩
          · cases e
        · cases e
      · cases e
    · cases e
  · rename_i e
    symm
    refine propext ⟨fun q => ?_, fun q => q.elim⟩
    split at e
    · rename_i ds0 h0
      rw [h0, ownL_ow] at q
      split at e
      · rename_i x ρ2 s2 h1
        try rw [h1] at q
        try dsimp only at q
        split at e
        · rename_i ds h2
          rw [h2, ownL_ow] at q
          rw [if_pos q.1] at e
          cases e
        · rename_i h2
          rw [bad h2] at q
          exact q
      · rename_i h1
        try rw [h1] at q
        exact q
    · rename_i h0
      rw [bad h0] at q
      exact q
theorem w_eListR1 {a : E S} {Q : D → Env → S → Prop} : wE (eListR1 a) ρ s Q = wE a ρ s fun x ρ s => isI x fun j => wD (if -16777216 ≤ j ∧ j ≤ 16777216 then some (rangeL 0 j.toNat) else none) fun ds => Q (.lst ds) ρ s := by
  unfold wE eListR1
  cases a ρ s with
  | none => rfl
  | some t =>
    obtain ⟨x, ρ1, s1⟩ := t
    cases x with
    | int j =>
      simp only [isI]
      by_cases hc : -16777216 ≤ j ∧ j ≤ 16777216
      · rw [if_pos hc, if_pos hc]; rfl
      · rw [if_neg hc, if_neg hc]; rfl
    | _ => rfl
theorem w_sAug {op : D → D → Option D} {i : Nat} {a : E S} {Q : Ctl → Env → S → Prop} {x : D} (h : ρ[i]? = some (some (.sh x))) : wS (sAug op i a) ρ s Q = wE a ρ s fun y ρ s => wD (op x y) fun z => Q .nx (ρ.set i (some (.sh z))) s := by
  unfold wS wE sAug
  rw [h]
  dsimp only
  cases a ρ s with
  | none => rfl
  | some t =>
    obtain ⟨y, ρ1, s1⟩ := t
    dsimp only
    cases op x y <;> rfl

/-- one statement, then the rest: R stands between -/
theorem w_seq {a b : C S} {Q : Ctl → Env → S → Prop} (R : Env → S → Prop) (h1 : ∀ Q' : Ctl → Env → S → Prop, (∀ ρ s, R ρ s → Q' .nx ρ s) → (∀ d ρ s, Q (.rt d) ρ s → Q' (.rt d) ρ s) → (∀ ρ s, Q .bk ρ s → Q' .bk ρ s) → (∀ ρ s, Q .ct ρ s → Q' .ct ρ s) → wS a ρ s Q')
    (h2 : ∀ ρ s, R ρ s → wS b ρ s Q) : wS (sSeq a b) ρ s Q := by
  rw [w_sSeq]
  exact h1 _ (fun ρ s h => h2 ρ s h) (fun d ρ s h => h) (fun ρ s h => h) (fun ρ s h => h)
/-- a test, by what it comes to -/
theorem w_if {t : T S} {a b : C S} {Q : Ctl → Env → S → Prop} (P : Bool → Env → S → Prop) (h1 : ∀ Q' : Bool → Env → S → Prop, (∀ c ρ s, P c ρ s → Q' c ρ s) → wT t ρ s Q') (h2 : ∀ ρ s, P true ρ s → wS a ρ s Q) (h3 : ∀ ρ s, P false ρ s → wS b ρ s Q) : wS (sIf t a b) ρ s Q := by
  rw [w_sIf]
  refine h1 _ fun c ρ s h => ?_
  cases c with
  | true => exact h2 ρ s h
  | false => exact h3 ρ s h
/-- an expression, by what it comes to -/
theorem w_E {f : E S} {Q : D → Env → S → Prop} (P : D → Env → S → Prop) (h1 : wE f ρ s P) (h2 : ∀ d ρ s, P d ρ s → Q d ρ s) : wE f ρ s Q := wE_mono h1 h2

/-- a comprehension that may move the frame's slots -/
theorem w_lcJ {it : I S} {tgt : Tg} {tt : T S} {elt : E S} {own : List Nat} {Q : D → Env → S → Prop} {P : List D → List D → Env → S → Prop}
    (h : wI it ρ s fun ds ρ1 s1 => own.all (notOw ρ1) = true ∧ P [] [] ρ1 s1 ∧
      (∀ (pre : List D) (d : D) (post : List D) (acc : List D) (ρ : Env) (s : S), ds = pre ++ d :: post → P pre acc ρ s → ∃ ρt, tgt d (wipeE own ρ) = some ρt ∧
        wT tt ρt s fun b ρ2 s2 => if b = true then wE elt ρ2 s2 (fun y ρ3 s3 => P (pre ++ [d]) (acc ++ [y]) (backE ρ1 own ρ3) s3) else P (pre ++ [d]) acc (backE ρ1 own ρ2) s2) ∧
      ∀ acc ρ s, P ds acc ρ s → Q (.lst acc) ρ s) : wE (eLc it tgt tt elt own) ρ s Q := by
  unfold wI at h
  unfold wE eLc
  cases e : it ρ s with
  | none => rw [e] at h; exact h.elim
  | some t =>
    obtain ⟨ds, ρ1, s1⟩ := t
    rw [e] at h
    obtain ⟨hown, hP, hstep, hfin⟩ := h
    dsimp only
    rw [if_pos hown]
    have key : ∀ (post pre acc : List D) (ρ : Env) (s : S), ds = pre ++ post → P pre acc ρ s → ∃ acc' ρ' s', lcLoop tgt tt elt own ρ1 post acc ρ s = some (acc', ρ', s') ∧ P ds acc' ρ' s' := fun post => by
      induction post with
      | nil =>
        intro pre acc ρ s hd hp
        rw [List.append_nil] at hd
        subst hd
        exact ⟨acc, ρ, s, rfl, hp⟩
      | cons d post ih =>
        intro pre acc ρ s hd hp
        obtain ⟨ρt, e1, h1⟩ := hstep pre d post acc ρ s hd hp
        have hd' : ds = (pre ++ [d]) ++ post := by rw [hd, List.append_assoc]; rfl
        unfold lcLoop
        rw [e1]
        dsimp only
        unfold wT at h1
        cases e2 : tt ρt s with
        | none => rw [e2] at h1; exact h1.elim
        | some t =>
          obtain ⟨b, ρ2, s2⟩ := t
          rw [e2] at h1
          cases b with
          | true =>
            simp only [if_true] at h1
            unfold wE at h1
            cases e3 : elt ρ2 s2 with
            | none => rw [e3] at h1; exact h1.elim
            | some t =>
              obtain ⟨y, ρ3, s3⟩ := t
              rw [e3] at h1
              obtain ⟨acc', ρ', s', q1, q2⟩ := ih (pre ++ [d]) (acc ++ [y]) _ s3 hd' h1
              refine ⟨acc', ρ', s', ?_, q2⟩
              simp only [e3]
              exact q1
          | false =>
            simp only [Bool.false_eq_true, if_false] at h1
            obtain ⟨acc', ρ', s', q1, q2⟩ := ih (pre ++ [d]) acc _ s2 hd' h1
            exact ⟨acc', ρ', s', q1, q2⟩
    obtain ⟨acc', ρ', s', q1, q2⟩ := key ds [] [] ρ1 s1 rfl hP
    rw [q1]
    exact hfin acc' ρ' s' q2
theorem w_popAt {i : Nat} {a : E S} {ds : List D} {Q : D → Env → S → Prop} (h : ρ[i]? = some (some (.ow (.lst ds))))
    (ha : wE a ρ s fun x ρ' s' => ρ' = ρ ∧ ∃ k j y, x = .int k ∧ ixD ds.length k = some j ∧ ds[j]? = some y ∧ Q y (ρ.set i (some (.ow (.lst (ds.eraseIdx j))))) s') : wE (ePopAt i a) ρ s Q := by
  unfold wE at ha
  cases e : a ρ s with
  | none => rw [e] at ha; exact ha.elim
  | some t =>
    obtain ⟨x, ρ', s'⟩ := t
    rw [e] at ha
    obtain ⟨rfl, k, j, y, rfl, h1, h2, hq⟩ := ha
    unfold wE ePopAt
    rw [h]
    simp only [e, h, h1, h2]
    exact hq
end
end Fw
/-! ## EvH -/
set_option linter.all false
/-! The same equations with a shared slot named by its place: each is used at the head, ahead of what stands behind it. -/
namespace Fw
section
variable {S : Type} {ρ : Env} {s : S} {a0 a1 a2 a3 a4 a5 a6 a7 : Option Sl} {d : D} {Q : D → Env → S → Prop}
theorem v0 : wE (eV 0) (some (.sh d) :: ρ) s Q = Q d (some (.sh d) :: ρ) s := by rw [v_eV]; rfl
theorem v1 : wE (eV 1) (a0 :: some (.sh d) :: ρ) s Q = Q d (a0 :: some (.sh d) :: ρ) s := by rw [v_eV]; rfl
theorem v2 : wE (eV 2) (a0 :: a1 :: some (.sh d) :: ρ) s Q = Q d (a0 :: a1 :: some (.sh d) :: ρ) s := by rw [v_eV]; rfl
theorem v3 : wE (eV 3) (a0 :: a1 :: a2 :: some (.sh d) :: ρ) s Q = Q d (a0 :: a1 :: a2 :: some (.sh d) :: ρ) s := by rw [v_eV]; rfl
theorem v4 : wE (eV 4) (a0 :: a1 :: a2 :: a3 :: some (.sh d) :: ρ) s Q = Q d (a0 :: a1 :: a2 :: a3 :: some (.sh d) :: ρ) s := by rw [v_eV]; rfl
theorem v5 : wE (eV 5) (a0 :: a1 :: a2 :: a3 :: a4 :: some (.sh d) :: ρ) s Q = Q d (a0 :: a1 :: a2 :: a3 :: a4 :: some (.sh d) :: ρ) s := by rw [v_eV]; rfl
theorem v6 : wE (eV 6) (a0 :: a1 :: a2 :: a3 :: a4 :: a5 :: some (.sh d) :: ρ) s Q = Q d (a0 :: a1 :: a2 :: a3 :: a4 :: a5 :: some (.sh d) :: ρ) s := by rw [v_eV]; rfl
theorem v7 : wE (eV 7) (a0 :: a1 :: a2 :: a3 :: a4 :: a5 :: a6 :: some (.sh d) :: ρ) s Q = Q d (a0 :: a1 :: a2 :: a3 :: a4 :: a5 :: a6 :: some (.sh d) :: ρ) s := by rw [v_eV]; rfl
end
end Fw
/-! ## EvW -/
set_option linter.all false
/-! slots 8 to 23, by place -/
namespace Fw
section
variable {S : Type} {ρ : Env} {s : S} {a0 a1 a2 a3 a4 a5 a6 a7 a8 a9 a10 a11 a12 a13 a14 a15 a16 a17 a18 a19 a20 a21 a22 a23 a24 a25 a26 a27 : Option Sl} {d : D} {Q : D → Env → S → Prop}
theorem v8 : wE (eV 8) (a0 :: a1 :: a2 :: a3 :: a4 :: a5 :: a6 :: a7 :: some (.sh d) :: ρ) s Q = Q d (a0 :: a1 :: a2 :: a3 :: a4 :: a5 :: a6 :: a7 :: some (.sh d) :: ρ) s := by rw [v_eV]; rfl
theorem v9 : wE (eV 9) (a0 :: a1 :: a2 :: a3 :: a4 :: a5 :: a6 :: a7 :: a8 :: some (.sh d) :: ρ) s Q = Q d (a0 :: a1 :: a2 :: a3 :: a4 :: a5 :: a6 :: a7 :: a8 :: some (.sh d) :: ρ) s := by rw [v_eV]; rfl
theorem v10 : wE (eV 10) (a0 :: a1 :: a2 :: a3 :: a4 :: a5 :: a6 :: a7 :: a8 :: a9 :: some (.sh d) :: ρ) s Q = Q d (a0 :: a1 :: a2 :: a3 :: a4 :: a5 :: a6 :: a7 :: a8 :: a9 :: some (.sh d) :: ρ) s := by rw [v_eV]; rfl
theorem v11 : wE (eV 11) (a0 :: a1 :: a2 :: a3 :: a4 :: a5 :: a6 :: a7 :: a8 :: a9 :: a10 :: some (.sh d) :: ρ) s Q = Q d (a0 :: a1 :: a2 :: a3 :: a4 :: a5 :: a6 :: a7 :: a8 :: a9 :: a10 :: some (.sh d) :: ρ) s := by rw [v_eV]; rfl
theorem v12 : wE (eV 12) (a0 :: a1 :: a2 :: a3 :: a4 :: a5 :: a6 :: a7 :: a8 :: a9 :: a10 :: a11 :: some (.sh d) :: ρ) s Q = Q d (a0 :: a1 :: a2 :: a3 :: a4 :: a5 :: a6 :: a7 :: a8 :: a9 :: a10 :: a11 :: some (.sh d) :: ρ) s := by rw [v_eV]; rfl
theorem v13 : wE (eV 13) (a0 :: a1 :: a2 :: a3 :: a4 :: a5 :: a6 :: a7 :: a8 :: a9 :: a10 :: a11 :: a12 :: some (.sh d) :: ρ) s Q = Q d (a0 :: a1 :: a2 :: a3 :: a4 :: a5 :: a6 :: a7 :: a8 :: a9 :: a10 :: a11 :: a12 :: some (.sh d) :: ρ) s := by rw [v_eV]; rfl
theorem v14 : wE (eV 14) (a0 :: a1 :: a2 :: a3 :: a4 :: a5 :: a6 :: a7 :: a8 :: a9 :: a10 :: a11 :: a12 :: a13 :: some (.sh d) :: ρ) s Q = Q d (a0 :: a1 :: a2 :: a3 :: a4 :: a5 :: a6 :: a7 :: a8 :: a9 :: a10 :: a11 :: a12 :: a13 :: some (.sh d) :: ρ) s := by rw [v_eV]; rfl
theorem v15 : wE (eV 15) (a0 :: a1 :: a2 :: a3 :: a4 :: a5 :: a6 :: a7 :: a8 :: a9 :: a10 :: a11 :: a12 :: a13 :: a14 :: some (.sh d) :: ρ) s Q = Q d (a0 :: a1 :: a2 :: a3 :: a4 :: a5 :: a6 :: a7 :: a8 :: a9 :: a10 :: a11 :: a12 :: a13 :: a14 :: some (.sh d) :: ρ) s := by rw [v_eV]; rfl
theorem v16 : wE (eV 16) (a0 :: a1 :: a2 :: a3 :: a4 :: a5 :: a6 :: a7 :: a8 :: a9 :: a10 :: a11 :: a12 :: a13 :: a14 :: a15 :: some (.sh d) :: ρ) s Q = Q d (a0 :: a1 :: a2 :: a3 :: a4 :: a5 :: a6 :: a7 :: a8 :: a9 :: a10 :: a11 :: a12 :: a13 :: a14 :: a15 :: some (.sh d) :: ρ) s := by rw [v_eV]; rfl
theorem v17 : wE (eV 17) (a0 :: a1 :: a2 :: a3 :: a4 :: a5 :: a6 :: a7 :: a8 :: a9 :: a10 :: a11 :: a12 :: a13 :: a14 :: a15 :: a16 :: some (.sh d) :: ρ) s Q = Q d (a0 :: a1 :: a2 :: a3 :: a4 :: a5 :: a6 :: a7 :: a8 :: a9 :: a10 :: a11 :: a12 :: a13 :: a14 :: a15 :: a16 :: some (.sh d) :: ρ) s := by rw [v_eV]; rfl
theorem v18 : wE (eV 18) (a0 :: a1 :: a2 :: a3 :: a4 :: a5 :: a6 :: a7 :: a8 :: a9 :: a10 :: a11 :: a12 :: a13 :: a14 :: a15 :: a16 :: a17 :: some (.sh d) :: ρ) s Q = Q d (a0 :: a1 :: a2 :: a3 :: a4 :: a5 :: a6 :: a7 :: a8 :: a9 :: a10 :: a11 :: a12 :: a13 :: a14 :: a15 :: a16 :: a17 :: some (.sh d) :: ρ) s := by rw [v_eV]; rfl
theorem v19 : wE (eV 19) (a0 :: a1 :: a2 :: a3 :: a4 :: a5 :: a6 :: a7 :: a8 :: a9 :: a10 :: a11 :: a12 :: a13 :: a14 :: a15 :: a16 :: a17 :: a18 :: some (.sh d) :: ρ) s Q = Q d (a0 :: a1 :: a2 :: a3 :: a4 :: a5 :: a6 :: a7 :: a8 :: a9 :: a10 :: a11 :: a12 :: a13 :: a14 :: a15 :: a16 :: a17 :: a18 :: some (.sh d) :: ρ) s := by rw [v_eV]; rfl
theorem v20 : wE (eV 20) (a0 :: a1 :: a2 :: a3 :: a4 :: a5 :: a6 :: a7 :: a8 :: a9 :: a10 :: a11 :: a12 :: a13 :: a14 :: a15 :: a16 :: a17 :: a18 :: a19 :: some (.sh d) :: ρ) s Q = Q d (a0 :: a1 :: a2 :: a3 :: a4 :: a5 :: a6 :: a7 :: a8 :: a9 :: a10 :: a11 :: a12 :: a13 :: a14 :: a15 :: a16 :: a17 :: a18 :: a19 :: some (.sh d) :: ρ) s := by rw [v_eV]; rfl
theorem v21 : wE (eV 21) (a0 :: a1 :: a2 :: a3 :: a4 :: a5 :: a6 :: a7 :: a8 :: a9 :: a10 :: a11 :: a12 :: a13 :: a14 :: a15 :: a16 :: a17 :: a18 :: a19 :: a20 :: some (.sh d) :: ρ) s Q = Q d (a0 :: a1 :: a2 :: a3 :: a4 :: a5 :: a6 :: a7 :: a8 :: a9 :: a10 :: a11 :: a12 :: a13 :: a14 :: a15 :: a16 :: a17 :: a18 :: a19 :: a20 :: some (.sh d) :: ρ) s := by rw [v_eV]; rfl
theorem v22 : wE (eV 22) (a0 :: a1 :: a2 :: a3 :: a4 :: a5 :: a6 :: a7 :: a8 :: a9 :: a10 :: a11 :: a12 :: a13 :: a14 :: a15 :: a16 :: a17 :: a18 :: a19 :: a20 :: a21 :: some (.sh d) :: ρ) s Q = Q d (a0 :: a1 :: a2 :: a3 :: a4 :: a5 :: a6 :: a7 :: a8 :: a9 :: a10 :: a11 :: a12 :: a13 :: a14 :: a15 :: a16 :: a17 :: a18 :: a19 :: a20 :: a21 :: some (.sh d) :: ρ) s := by rw [v_eV]; rfl
theorem v23 : wE (eV 23) (a0 :: a1 :: a2 :: a3 :: a4 :: a5 :: a6 :: a7 :: a8 :: a9 :: a10 :: a11 :: a12 :: a13 :: a14 :: a15 :: a16 :: a17 :: a18 :: a19 :: a20 :: a21 :: a22 :: some (.sh d) :: ρ) s Q = Q d (a0 :: a1 :: a2 :: a3 :: a4 :: a5 :: a6 :: a7 :: a8 :: a9 :: a10 :: a11 :: a12 :: a13 :: a14 :: a15 :: a16 :: a17 :: a18 :: a19 :: a20 :: a21 :: a22 :: some (.sh d) :: ρ) s := by rw [v_eV]; rfl
theorem v24 : wE (eV 24) (a0 :: a1 :: a2 :: a3 :: a4 :: a5 :: a6 :: a7 :: a8 :: a9 :: a10 :: a11 :: a12 :: a13 :: a14 :: a15 :: a16 :: a17 :: a18 :: a19 :: a20 :: a21 :: a22 :: a23 :: some (.sh d) :: ρ) s Q = Q d (a0 :: a1 :: a2 :: a3 :: a4 :: a5 :: a6 :: a7 :: a8 :: a9 :: a10 :: a11 :: a12 :: a13 :: a14 :: a15 :: a16 :: a17 :: a18 :: a19 :: a20 :: a21 :: a22 :: a23 :: some (.sh d) :: ρ) s := by rw [v_eV]; rfl
theorem v25 : wE (eV 25) (a0 :: a1 :: a2 :: a3 :: a4 :: a5 :: a6 :: a7 :: a8 :: a9 :: a10 :: a11 :: a12 :: a13 :: a14 :: a15 :: a16 :: a17 :: a18 :: a19 :: a20 :: a21 :: a22 :: a23 :: a24 :: some (.sh d) :: ρ) s Q = Q d (a0 :: a1 :: a2 :: a3 :: a4 :: a5 :: a6 :: a7 :: a8 :: a9 :: a10 :: a11 :: a12 :: a13 :: a14 :: a15 :: a16 :: a17 :: a18 :: a19 :: a20 :: a21 :: a22 :: a23 :: a24 :: some (.sh d) :: ρ) s := by rw [v_eV]; rfl
theorem v26 : wE (eV 26) (a0 :: a1 :: a2 :: a3 :: a4 :: a5 :: a6 :: a7 :: a8 :: a9 :: a10 :: a11 :: a12 :: a13 :: a14 :: a15 :: a16 :: a17 :: a18 :: a19 :: a20 :: a21 :: a22 :: a23 :: a24 :: a25 :: some (.sh d) :: ρ) s Q = Q d (a0 :: a1 :: a2 :: a3 :: a4 :: a5 :: a6 :: a7 :: a8 :: a9 :: a10 :: a11 :: a12 :: a13 :: a14 :: a15 :: a16 :: a17 :: a18 :: a19 :: a20 :: a21 :: a22 :: a23 :: a24 :: a25 :: some (.sh d) :: ρ) s := by rw [v_eV]; rfl
theorem v27 : wE (eV 27) (a0 :: a1 :: a2 :: a3 :: a4 :: a5 :: a6 :: a7 :: a8 :: a9 :: a10 :: a11 :: a12 :: a13 :: a14 :: a15 :: a16 :: a17 :: a18 :: a19 :: a20 :: a21 :: a22 :: a23 :: a24 :: a25 :: a26 :: some (.sh d) :: ρ) s Q = Q d (a0 :: a1 :: a2 :: a3 :: a4 :: a5 :: a6 :: a7 :: a8 :: a9 :: a10 :: a11 :: a12 :: a13 :: a14 :: a15 :: a16 :: a17 :: a18 :: a19 :: a20 :: a21 :: a22 :: a23 :: a24 :: a25 :: a26 :: some (.sh d) :: ρ) s := by rw [v_eV]; rfl
end
section
variable {S : Type} {ρ : Env} {s : S} {b0 b1 b2 b3 b4 b5 b6 b7 b8 b9 b10 b11 : E S} {Q : D → Env → S → Prop}
theorem w_eTup0 : wE (eTup aNil) ρ s Q = Q (.tup []) ρ s := by
  simp only [w_eTup, w_aCons, w_aNil, List.length_cons, List.length_nil]
  simp [wD, LIM]
theorem w_eTup1 : wE (eTup (aCons b0 aNil)) ρ s Q = wE b0 ρ s fun x0 ρ s => Q (.tup [x0]) ρ s := by
  simp only [w_eTup, w_aCons, w_aNil, List.length_cons, List.length_nil]
  simp [wD, LIM]
theorem w_eTup2 : wE (eTup (aCons b0 (aCons b1 aNil))) ρ s Q = wE b0 ρ s fun x0 ρ s => wE b1 ρ s fun x1 ρ s => Q (.tup [x0, x1]) ρ s := by
  simp only [w_eTup, w_aCons, w_aNil, List.length_cons, List.length_nil]
  simp [wD, LIM]
theorem w_eTup3 : wE (eTup (aCons b0 (aCons b1 (aCons b2 aNil)))) ρ s Q = wE b0 ρ s fun x0 ρ s => wE b1 ρ s fun x1 ρ s => wE b2 ρ s fun x2 ρ s => Q (.tup [x0, x1, x2]) ρ s := by
  simp only [w_eTup, w_aCons, w_aNil, List.length_cons, List.length_nil]
  simp [wD, LIM]
theorem w_eTup4 : wE (eTup (aCons b0 (aCons b1 (aCons b2 (aCons b3 aNil))))) ρ s Q = wE b0 ρ s fun x0 ρ s => wE b1 ρ s fun x1 ρ s => wE b2 ρ s fun x2 ρ s => wE b3 ρ s fun x3 ρ s => Q (.tup [x0, x1, x2, x3]) ρ s := by
  simp only [w_eTup, w_aCons, w_aNil, List.length_cons, List.length_nil]
  simp [wD, LIM]
theorem w_eTup5 : wE (eTup (aCons b0 (aCons b1 (aCons b2 (aCons b3 (aCons b4 aNil)))))) ρ s Q = wE b0 ρ s fun x0 ρ s => wE b1 ρ s fun x1 ρ s => wE b2 ρ s fun x2 ρ s => wE b3 ρ s fun x3 ρ s => wE b4 ρ s fun x4 ρ s => Q (.tup [x0, x1, x2, x3, x4]) ρ s := by
  simp only [w_eTup, w_aCons, w_aNil, List.length_cons, List.length_nil]
  simp [wD, LIM]
theorem w_eTup6 : wE (eTup (aCons b0 (aCons b1 (aCons b2 (aCons b3 (aCons b4 (aCons b5 aNil))))))) ρ s Q = wE b0 ρ s fun x0 ρ s => wE b1 ρ s fun x1 ρ s => wE b2 ρ s fun x2 ρ s => wE b3 ρ s fun x3 ρ s => wE b4 ρ s fun x4 ρ s => wE b5 ρ s fun x5 ρ s => Q (.tup [x0, x1, x2, x3, x4, x5]) ρ s := by
  simp only [w_eTup, w_aCons, w_aNil, List.length_cons, List.length_nil]
  simp [wD, LIM]
theorem w_eTup7 : wE (eTup (aCons b0 (aCons b1 (aCons b2 (aCons b3 (aCons b4 (aCons b5 (aCons b6 aNil)))))))) ρ s Q = wE b0 ρ s fun x0 ρ s => wE b1 ρ s fun x1 ρ s => wE b2 ρ s fun x2 ρ s => wE b3 ρ s fun x3 ρ s => wE b4 ρ s fun x4 ρ s => wE b5 ρ s fun x5 ρ s => wE b6 ρ s fun x6 ρ s => Q (.tup [x0, x1, x2, x3, x4, x5, x6]) ρ s := by
  simp only [w_eTup, w_aCons, w_aNil, List.length_cons, List.length_nil]
  simp [wD, LIM]
theorem w_eTup8 : wE (eTup (aCons b0 (aCons b1 (aCons b2 (aCons b3 (aCons b4 (aCons b5 (aCons b6 (aCons b7 aNil))))))))) ρ s Q = wE b0 ρ s fun x0 ρ s => wE b1 ρ s fun x1 ρ s => wE b2 ρ s fun x2 ρ s => wE b3 ρ s fun x3 ρ s => wE b4 ρ s fun x4 ρ s => wE b5 ρ s fun x5 ρ s => wE b6 ρ s fun x6 ρ s => wE b7 ρ s fun x7 ρ s => Q (.tup [x0, x1, x2, x3, x4, x5, x6, x7]) ρ s := by
  simp only [w_eTup, w_aCons, w_aNil, List.length_cons, List.length_nil]
  simp [wD, LIM]
theorem w_eTup9 : wE (eTup (aCons b0 (aCons b1 (aCons b2 (aCons b3 (aCons b4 (aCons b5 (aCons b6 (aCons b7 (aCons b8 aNil)))))))))) ρ s Q = wE b0 ρ s fun x0 ρ s => wE b1 ρ s fun x1 ρ s => wE b2 ρ s fun x2 ρ s => wE b3 ρ s fun x3 ρ s => wE b4 ρ s fun x4 ρ s => wE b5 ρ s fun x5 ρ s => wE b6 ρ s fun x6 ρ s => wE b7 ρ s fun x7 ρ s => wE b8 ρ s fun x8 ρ s => Q (.tup [x0, x1, x2, x3, x4, x5, x6, x7, x8]) ρ s := by
  simp only [w_eTup, w_aCons, w_aNil, List.length_cons, List.length_nil]
  simp [wD, LIM]
theorem w_eTup10 : wE (eTup (aCons b0 (aCons b1 (aCons b2 (aCons b3 (aCons b4 (aCons b5 (aCons b6 (aCons b7 (aCons b8 (aCons b9 aNil))))))))))) ρ s Q = wE b0 ρ s fun x0 ρ s => wE b1 ρ s fun x1 ρ s => wE b2 ρ s fun x2 ρ s => wE b3 ρ s fun x3 ρ s => wE b4 ρ s fun x4 ρ s => wE b5 ρ s fun x5 ρ s => wE b6 ρ s fun x6 ρ s => wE b7 ρ s fun x7 ρ s => wE b8 ρ s fun x8 ρ s => wE b9 ρ s fun x9 ρ s => Q (.tup [x0, x1, x2, x3, x4, x5, x6, x7, x8, x9]) ρ s := by
  simp only [w_eTup, w_aCons, w_aNil, List.length_cons, List.length_nil]
  simp [wD, LIM]
theorem w_eLst0 : wE (eLst aNil) ρ s Q = Q (.lst []) ρ s := by
  simp only [w_eLst, w_aCons, w_aNil, List.length_cons, List.length_nil]
  simp [wD, LIM]
theorem w_eLst1 : wE (eLst (aCons b0 aNil)) ρ s Q = wE b0 ρ s fun x0 ρ s => Q (.lst [x0]) ρ s := by
  simp only [w_eLst, w_aCons, w_aNil, List.length_cons, List.length_nil]
  simp [wD, LIM]
theorem w_eLst2 : wE (eLst (aCons b0 (aCons b1 aNil))) ρ s Q = wE b0 ρ s fun x0 ρ s => wE b1 ρ s fun x1 ρ s => Q (.lst [x0, x1]) ρ s := by
  simp only [w_eLst, w_aCons, w_aNil, List.length_cons, List.length_nil]
  simp [wD, LIM]
theorem w_eLst3 : wE (eLst (aCons b0 (aCons b1 (aCons b2 aNil)))) ρ s Q = wE b0 ρ s fun x0 ρ s => wE b1 ρ s fun x1 ρ s => wE b2 ρ s fun x2 ρ s => Q (.lst [x0, x1, x2]) ρ s := by
  simp only [w_eLst, w_aCons, w_aNil, List.length_cons, List.length_nil]
  simp [wD, LIM]
theorem w_eLst4 : wE (eLst (aCons b0 (aCons b1 (aCons b2 (aCons b3 aNil))))) ρ s Q = wE b0 ρ s fun x0 ρ s => wE b1 ρ s fun x1 ρ s => wE b2 ρ s fun x2 ρ s => wE b3 ρ s fun x3 ρ s => Q (.lst [x0, x1, x2, x3]) ρ s := by
  simp only [w_eLst, w_aCons, w_aNil, List.length_cons, List.length_nil]
  simp [wD, LIM]
theorem w_eLst5 : wE (eLst (aCons b0 (aCons b1 (aCons b2 (aCons b3 (aCons b4 aNil)))))) ρ s Q = wE b0 ρ s fun x0 ρ s => wE b1 ρ s fun x1 ρ s => wE b2 ρ s fun x2 ρ s => wE b3 ρ s fun x3 ρ s => wE b4 ρ s fun x4 ρ s => Q (.lst [x0, x1, x2, x3, x4]) ρ s := by
  simp only [w_eLst, w_aCons, w_aNil, List.length_cons, List.length_nil]
  simp [wD, LIM]
theorem w_eLst6 : wE (eLst (aCons b0 (aCons b1 (aCons b2 (aCons b3 (aCons b4 (aCons b5 aNil))))))) ρ s Q = wE b0 ρ s fun x0 ρ s => wE b1 ρ s fun x1 ρ s => wE b2 ρ s fun x2 ρ s => wE b3 ρ s fun x3 ρ s => wE b4 ρ s fun x4 ρ s => wE b5 ρ s fun x5 ρ s => Q (.lst [x0, x1, x2, x3, x4, x5]) ρ s := by
  simp only [w_eLst, w_aCons, w_aNil, List.length_cons, List.length_nil]
  simp [wD, LIM]
theorem w_eLst7 : wE (eLst (aCons b0 (aCons b1 (aCons b2 (aCons b3 (aCons b4 (aCons b5 (aCons b6 aNil)))))))) ρ s Q = wE b0 ρ s fun x0 ρ s => wE b1 ρ s fun x1 ρ s => wE b2 ρ s fun x2 ρ s => wE b3 ρ s fun x3 ρ s => wE b4 ρ s fun x4 ρ s => wE b5 ρ s fun x5 ρ s => wE b6 ρ s fun x6 ρ s => Q (.lst [x0, x1, x2, x3, x4, x5, x6]) ρ s := by
  simp only [w_eLst, w_aCons, w_aNil, List.length_cons, List.length_nil]
  simp [wD, LIM]
theorem w_eLst8 : wE (eLst (aCons b0 (aCons b1 (aCons b2 (aCons b3 (aCons b4 (aCons b5 (aCons b6 (aCons b7 aNil))))))))) ρ s Q = wE b0 ρ s fun x0 ρ s => wE b1 ρ s fun x1 ρ s => wE b2 ρ s fun x2 ρ s => wE b3 ρ s fun x3 ρ s => wE b4 ρ s fun x4 ρ s => wE b5 ρ s fun x5 ρ s => wE b6 ρ s fun x6 ρ s => wE b7 ρ s fun x7 ρ s => Q (.lst [x0, x1, x2, x3, x4, x5, x6, x7]) ρ s := by
  simp only [w_eLst, w_aCons, w_aNil, List.length_cons, List.length_nil]
  simp [wD, LIM]
theorem w_eLst9 : wE (eLst (aCons b0 (aCons b1 (aCons b2 (aCons b3 (aCons b4 (aCons b5 (aCons b6 (aCons b7 (aCons b8 aNil)))))))))) ρ s Q = wE b0 ρ s fun x0 ρ s => wE b1 ρ s fun x1 ρ s => wE b2 ρ s fun x2 ρ s => wE b3 ρ s fun x3 ρ s => wE b4 ρ s fun x4 ρ s => wE b5 ρ s fun x5 ρ s => wE b6 ρ s fun x6 ρ s => wE b7 ρ s fun x7 ρ s => wE b8 ρ s fun x8 ρ s => Q (.lst [x0, x1, x2, x3, x4, x5, x6, x7, x8]) ρ s := by
  simp only [w_eLst, w_aCons, w_aNil, List.length_cons, List.length_nil]
  simp [wD, LIM]
theorem w_eLst10 : wE (eLst (aCons b0 (aCons b1 (aCons b2 (aCons b3 (aCons b4 (aCons b5 (aCons b6 (aCons b7 (aCons b8 (aCons b9 aNil))))))))))) ρ s Q = wE b0 ρ s fun x0 ρ s => wE b1 ρ s fun x1 ρ s => wE b2 ρ s fun x2 ρ s => wE b3 ρ s fun x3 ρ s => wE b4 ρ s fun x4 ρ s => wE b5 ρ s fun x5 ρ s => wE b6 ρ s fun x6 ρ s => wE b7 ρ s fun x7 ρ s => wE b8 ρ s fun x8 ρ s => wE b9 ρ s fun x9 ρ s => Q (.lst [x0, x1, x2, x3, x4, x5, x6, x7, x8, x9]) ρ s := by
  simp only [w_eLst, w_aCons, w_aNil, List.length_cons, List.length_nil]
  simp [wD, LIM]
end
end Fw
/-! ## FwDk -/
set_option Elab.async false
set_option linter.all false
/-! Dicts whose keys are ints or texts; plain. -/
namespace Fw
open PySem PySem.Spec
variable {S : Type}
def key? : D → Option Key
  | .int i => some (.inl i)
  | .str x => some (.inr x)
  | _ => none
def dval (kvs : List (Key × D)) (k : Key) : Option D := (kvs.find? fun kv => decide (kv.1 = k)).map (·.2)
def dput (kvs : List (Key × D)) (k : Key) (d : D) : List (Key × D) :=
  if (kvs.any fun kv => decide (kv.1 = k)) = true then kvs.map (fun kv => if kv.1 = k then (kv.1, d) else kv) else kvs ++ [(k, d)]
/-- x in y, y a dict -/
def dKIn (x y : D) : Option D := match y with
  | .dct kvs => (key? x).map fun k => .bl (dval kvs k).isSome
  | _ => none
def dKNotIn (x y : D) : Option D := match y with
  | .dct kvs => (key? x).map fun k => .bl (!(dval kvs k).isSome)
  | _ => none
/-- y[x], y a dict -/
def dKGet (y x : D) : Option D := match y with
  | .dct kvs => (key? x).bind (dval kvs)
  | _ => none
/-- y[k] = a -/
def sPutK (a : E S) (i : Nat) (k : E S) : C S := fun ρ s => match a ρ s with
  | some (x, ρ1, s1) => (match ρ1[i]? with
    | some (some (.ow (.dct _))) => (match k ρ1 s1 with
      | some (y, ρ2, s2) => (match ρ2[i]?, key? y with
        | some (some (.ow (.dct kvs))), some k => if kvs.length < LIM then some (.nx, ρ2.set i (some (.ow (.dct (dput kvs k x)))), s2) else none
        | _, _ => none)
      | none => none)
    | _ => none)
  | none => none
/-- {k: v} -/
def eD1 (k v : E S) : E S := fun ρ s => match k ρ s with
  | some (x, ρ, s) => (match v ρ s with
    | some (y, ρ, s) => (match key? x with
      | some k => some (.dct [(k, y)], ρ, s)
      | none => none)
    | none => none)
  | none => none
def keysI? : List (Key × D) → Option (List Int)
  | [] => some []
  | (.inl i, _) :: r => (keysI? r).map (i :: ·)
  | (.inr _, _) :: _ => none
def leI (a b : Int) : Bool := decide (a ≤ b)
/-- sorted(d), sorted(ints), fewer than 64 -/
def dSortK : D → Option D
  | .dct kvs => (keysI? kvs).bind fun ks => if ks.length < 64 then some (.lst ((ks.mergeSort leI).map .int)) else none
  | _ => none
def dSortI : D → Option D
  | .lst ds => (ints? ds).bind fun ks => some (.lst ((ks.mergeSort leI).map .int))
  | _ => none
/-- *x in a display -/
def aStar (a : E S) (r : As S) : As S := fun ρ s => match a ρ s with
  | some (x, ρ, s) => (match items? x with
    | some xs => (match r ρ s with
      | some (ys, ρ, s) => some (xs ++ ys, ρ, s)
      | none => none)
    | none => none)
  | none => none
/-- y[k] op= a, y an owned list: the item is taken ahead -/
def sAugIx (op : D → D → Option D) (i : Nat) (k a : E S) : C S := fun ρ s => match ρ[i]? with
  | some (some (.ow (.lst _))) => (match k ρ s with
    | some (.int y, ρ1, s1) => (match ρ1[i]? with
      | some (some (.ow (.lst ds))) => (match (ixD ds.length y).bind fun j => ds[j]? with
        | some x => (match a ρ1 s1 with
          | some (z, ρ2, s2) => (match ρ2[i]?, op x z with
            | some (some (.ow (.lst es))), some w => (match ixD es.length y with
              | some j => some (.nx, ρ2.set i (some (.ow (.lst (es.set j w)))), s2)
              | none => none)
            | _, _ => none)
          | none => none)
        | none => none)
      | _ => none)
    | _ => none)
  | _ => none
/-- sum of a list, of a tuple -/
def dSumA (x : D) : Option D := (items? x).bind fun ds => (ints? ds).map fun is => .int is.sum
/-- pairs of a key and a value -/
def pairs? : List D → Option (List (Key × D))
  | [] => some []
  | .tup [k, v] :: r => (key? k).bind fun k => (pairs? r).map ((k, v) :: ·)
  | _ :: _ => none
/-- dict(xs) of a list of pairs -/
def dDictP : D → Option D
  | .lst ds => (pairs? ds).map fun kvs => .dct (kvs.foldl (fun acc kv => dput acc kv.1 kv.2) [])
  | _ => none
def dLenK : D → Option D
  | .dct kvs => some (.int kvs.length)
  | _ => none
/-- xs.count(k), ints -/
def dCount : D → D → Option D
  | .lst ds, .int k => (ints? ds).map fun is => .int (is.count k : Nat)
  | _, _ => none
/-- xs.index(k), ints, k there -/
def dIndex : D → D → Option D
  | .lst ds, .int k => (ints? ds).bind fun is => if k ∈ is then some (.int (is.idxOf k : Nat)) else none
  | _, _ => none
/-- tuple(range(n)) -/
def eTupR1 (a : E S) : E S := fun ρ s => match a ρ s with
  | some (.int j, ρ, s) => if -16777216 ≤ j ∧ j ≤ 16777216 then some (.tup (rangeL 0 j.toNat), ρ, s) else none
  | _ => none
/-- never reached -/
def sNever : C S := fun _ _ => none
/-- the same as eBL, the slot a list to begin with -/
def eBLM (op : D → D → Option D) (i : Nat) (b : E S) : E S := fun ρ s => match ρ[i]? with
  | some (some (.ow (.lst _))) => eBL op i b ρ s
  | _ => none
end Fw
/-! ## G1 -/
set_option linter.all false
set_option maxRecDepth 100000
set_option maxHeartbeats 1000000
/-! Operations. -/
namespace Fw
open PySem
theorem map_inj {α β : Type} {f : α → β} (hf : ∀ a b, f a = f b → a = b) : ∀ {l l' : List α}, l.map f = l'.map f → l = l'
  | [], [], _ => rfl
  | [], _ :: _, h => by simp at h
  | _ :: _, [], h => by simp at h
  | a :: l, b :: l', h => by
    simp only [List.map_cons, List.cons.injEq] at h
    rw [hf _ _ h.1, map_inj hf h.2]
theorem o_eqI (i j : Int) : dEq (.int i) (.int j) = some (.bl (decide (i = j))) := by
  have : D.eqv (.int i) (.int j) = decide (i = j) := by
    show (i == j) = _
    exact Bool.eq_iff_iff.mpr (by simp)
  unfold dEq
  rw [if_pos ⟨rfl, rfl⟩, this]
theorem o_neI (i j : Int) : dNe (.int i) (.int j) = some (.bl (!decide (i = j))) := by
  have : D.eqv (.int i) (.int j) = decide (i = j) := by
    show (i == j) = _
    exact Bool.eq_iff_iff.mpr (by simp)
  unfold dNe
  rw [if_pos ⟨rfl, rfl⟩, this]
theorem o_ixT (ds : List D) (k : Nat) : dIx (.tup ds) (.int (k : Int)) = ds[k]? := by
  show (ixD ds.length (k : Int)).bind (fun j => ds[j]?) = _
  unfold ixD
  rw [if_pos (by omega)]
  by_cases h : (k : Int) < ds.length
  · rw [if_pos h]; simp
  · rw [if_neg h]; simp; omega
theorem o_ixL (ds : List D) (k : Nat) : dIx (.lst ds) (.int (k : Int)) = ds[k]? := o_ixT ds k
theorem o_ix0 (ds : List D) : dIx (.tup ds) (.int 0) = ds[0]? := o_ixT ds 0
theorem o_ix1 (ds : List D) : dIx (.tup ds) (.int 1) = ds[1]? := o_ixT ds 1
theorem o_ix2 (ds : List D) : dIx (.tup ds) (.int 2) = ds[2]? := o_ixT ds 2
theorem o_ix3 (ds : List D) : dIx (.tup ds) (.int 3) = ds[3]? := o_ixT ds 3
theorem o_fdiv2 (e : Nat) : dFdiv (.int (e : Int)) (.int 2) = some (.int ((e / 2 : Nat) : Int)) := by
  show (if (0 : Int) < 2 ∧ (2 : Int) < 1073741824 then some (D.int ((e : Int) / 2)) else none) = _
  rw [if_pos (by decide)]
  rfl
theorem o_mod2 (e : Nat) : dMod (.int (e : Int)) (.int 2) = some (.int ((e % 2 : Nat) : Int)) := by
  show (if (0 : Int) < 2 then some (D.int ((e : Int) % 2)) else none) = _
  rw [if_pos (by decide)]
  rfl
theorem pures_map (f : Int → D) (hf : ∀ i, (f i).pure = true) (l : List Int) : D.pures (l.map f) = true := by
  induction l with
  | nil => rfl
  | cons x r ih => simp [D.pures, hf, ih]
theorem eqOk_ints (l : List Int) : D.eqOk (.lst (l.map .int)) = true := by
  have h1 : D.pure (.lst (l.map D.int)) = true := pures_map D.int (fun _ => rfl) l
  have h2 : ∀ l : List Int, PyData.canLayAll0 (D.pys (l.map D.int)) = true ∧ PyData.depthAll (D.pys (l.map D.int)) = 0 := fun l => by
    induction l with
    | nil => exact ⟨rfl, rfl⟩
    | cons x r ih => simp [D.pys, D.py, PyData.canLayAll0, PyData.canLay0, PyData.depthAll, PyData.depth, ih]
  unfold D.eqOk SeqAt.shaped
  rw [h1]
  simp only [D.py, PyData.canLay0, PyData.depth, (h2 l).1, (h2 l).2]
  rfl
theorem o_eqNil {ds : List D} (h : D.eqOk (.lst ds) = true) : dEq (.lst ds) (.lst []) = some (.bl ds.isEmpty) := by
  unfold dEq
  rw [if_pos ⟨h, rfl⟩]
  cases ds <;> rfl
theorem o_neNil {ds : List D} (h : D.eqOk (.lst ds) = true) : dNe (.lst ds) (.lst []) = some (.bl !ds.isEmpty) := by
  unfold dNe
  rw [if_pos ⟨h, rfl⟩]
  cases ds <;> rfl
mutual
def nob : D → Bool
  | .lst ds => nobs ds
  | .tup ds => nobs ds
  | .obj _ => false
  | .dct kvs => kvs.isEmpty
  | _ => true
def nobs : List D → Bool
  | [] => true
  | d :: r => nob d && nobs r
end
theorem nobs_mem : ∀ {ds : List D}, nobs ds = true → ∀ d ∈ ds, nob d = true
  | [], _, d, hd => by simp at hd
  | x :: r, h, d, hd => by
    simp only [nobs, Bool.and_eq_true] at h
    rcases List.mem_cons.mp hd with e | hd
    · rw [e]; exact h.1
    · exact nobs_mem h.2 d hd
def isN : D → Bool
  | .int _ => true
  | _ => false
theorem bools_map (l : List Bool) : bools? (l.map D.bl) = some l := by
  induction l with
  | nil => rfl
  | cons x r ih =>
    show (match D.bl x, bools? (r.map D.bl) with
      | .bl i, some is => some (i :: is)
      | _, _ => none) = _
    rw [ih]
theorem o_allB (l : List Bool) : dAll (.lst (l.map D.bl)) = some (.bl (l.all id)) := by
  show (bools? (l.map D.bl)).map _ = _
  rw [bools_map]
  rfl
theorem notOw_nil {n : Nat} {ds : List D} {own : List Nat} : own.all (notOw (ds.map (fun d => some (Sl.sh d)) ++ List.replicate n none)) = true := by
  rw [List.all_eq_true]
  intro i _
  unfold notOw
  split
  · rename_i x e
    exfalso
    rw [List.getElem?_append] at e
    split at e
    · simp at e
    · simp [List.getElem?_replicate] at e
  · rfl
abbrev nats (l : List Nat) : List D := l.map fun (x : Nat) => D.int (x : Int)
theorem rangeL_nats (m : Nat) : rangeL 0 m = nats (List.range m) := by
  unfold rangeL nats
  refine List.map_congr_left fun k _ => ?_
  congr 1
  omega
theorem o_ixN (h : List Nat) {a : Nat} (ha : a < h.length) : dIx (.lst (nats h)) (.int a) = some (.int (h.getD a 0 : Nat)) := by
  rw [o_ixL, List.getElem?_map, List.getElem?_eq_getElem ha, List.getD_eq_getElem?_getD, List.getElem?_eq_getElem ha]
  rfl
theorem o_ixI (l : List Int) {a : Nat} (ha : a < l.length) : dIx (.tup (l.map D.int)) (.int a) = some (.int (l.getD a 0)) := by
  rw [o_ixT, List.getElem?_map, List.getElem?_eq_getElem ha, List.getD_eq_getElem?_getD, List.getElem?_eq_getElem ha]
  rfl
theorem o_min2 (a b : Nat) : dMin2 (.int (a : Int)) (.int (b : Int)) = some (.int ((min a b : Nat) : Int)) := by
  show some (D.int (if (b : Int) < (a : Int) then (b : Int) else a)) = _
  congr 2
  split <;> omega
theorem o_max2 (a b : Nat) : dMax2 (.int (a : Int)) (.int (b : Int)) = some (.int ((max a b : Nat) : Int)) := by
  show some (D.int (if (b : Int) > (a : Int) then (b : Int) else a)) = _
  congr 2
  split <;> omega
theorem ints_nats (l : List Nat) : ints? (nats l) = some (l.map fun (x : Nat) => (x : Int)) := by
  induction l with
  | nil => rfl
  | cons x r ih =>
    show (match D.int (x : Int), ints? (nats r) with
      | .int i, some is => some (i :: is)
      | _, _ => none) = _
    rw [ih]
    rfl
theorem map_nats_inj {l l' : List Nat} (h : nats l = nats l') : l = l' := map_inj (f := fun (x : Nat) => D.int (x : Int)) (fun a b e => by
  simp only [D.int.injEq] at e
  omega) h
theorem half_lt {e m : Nat} (h : e < 2 * m) : e / 2 < m := by omega
theorem par_01 (e : Nat) : e % 2 = 0 ∨ e % 2 = 1 := by omega
theorem castI {a b : Nat} : ((a : Int) = (b : Int)) = (a = b) := propext (by omega)
theorem ints_int (l : List Int) : ints? (l.map D.int) = some l := by
  induction l with
  | nil => rfl
  | cons x r ih =>
    show (match D.int x, ints? (r.map D.int) with
      | .int i, some is => some (i :: is)
      | _, _ => none) = _
    rw [ih]
theorem enumL_at : ∀ (ds : List D) (j i : Nat), (enumL j ds)[i]? = (ds[i]?).map fun d => .tup [.int ((j + i : Nat) : Int), d]
  | [], j, i => by simp [enumL]
  | d :: r, j, 0 => by simp [enumL]
  | d :: r, j, i + 1 => by
    simp only [enumL, List.getElem?_cons_succ, enumL_at r (j + 1) i]
    congr 1
    funext d
    congr 3
    omega
theorem foldl_range {α : Type} (f : α → Nat → α) (a : α) (n : Nat) : (List.range (n + 1)).foldl f a = f ((List.range n).foldl f a) n := by
  rw [List.range_succ, List.foldl_append]; rfl
theorem atD_nat {α : Type} {xs : List α} {k : Nat} (h : k < xs.length) : atD xs (k : Int) = some xs[k] := by
  unfold atD ixD
  rw [if_pos (by omega), if_pos (by omega)]
  simp [h]
theorem ixD_nat {n k : Nat} (h : k < n) : ixD n (k : Int) = some k := by
  unfold ixD
  rw [if_pos (by omega), if_pos (by omega)]
  simp
theorem eV_at {S : Type} {i : Nat} {d : D} {ρ : Env} {s : S} (h : ρ[i]? = some (some (.sh d))) : eV i ρ s = some (d, ρ, s) := by
  unfold eV; rw [h]
theorem take_succ_range {n k : Nat} {d : D} (h : (nats (List.range n))[k]? = some d) : d = .int k ∧ k < n := by
  rw [List.getElem?_map] at h
  obtain ⟨x, hx, rfl⟩ := Option.map_eq_some_iff.mp h
  obtain ⟨h1, h2⟩ := List.getElem?_eq_some_iff.mp hx
  simp at h1 h2
  exact ⟨by rw [h2], h1⟩
theorem o_minI (i j : Int) : dMin2 (.int i) (.int j) = some (.int (min i j)) := by
  show some (D.int (if j < i then j else i)) = _
  congr 2
  split <;> omega
theorem rangeL1 (n : Nat) : rangeL 1 n = (List.range n).map fun (k : Nat) => D.int ((k + 1 : Nat) : Int) := by
  unfold rangeL
  refine List.map_congr_left fun k _ => ?_
  congr 1
  omega
theorem o_mulS {i : Int} (h : -1000000 ≤ i ∧ i ≤ 1000000) : dMul (.int 2) (.int i) = some (.int (2 * i)) := by
  show (if (-(2 ^ 64) < (2 : Int) ∧ (2 : Int) < 2 ^ 64) ∨ (-(2 ^ 64) < i ∧ i < 2 ^ 64) then some (D.int (2 * i)) else none) = _
  rw [if_pos (.inl (by decide))]
theorem o_last (l : List Nat) (e : Nat) : dIx (.lst (nats (l ++ [e]))) (.int (-1)) = some (.int e) := by
  show (ixD (nats (l ++ [e])).length (-1)).bind (fun j => (nats (l ++ [e]))[j]?) = _
  have hl : (nats (l ++ [e])).length = l.length + 1 := by simp [nats]
  unfold ixD
  rw [if_neg (by decide), if_pos (by rw [hl]; omega), hl]
  have : ((-1 : Int) + ((l.length + 1 : Nat) : Int)).toNat = l.length := by omega
  rw [this]
  simp [nats]
theorem mem_cutD {ds : List D} {lo hi : Option Int} {x : D} (h : x ∈ cutD ds lo hi) : x ∈ ds := List.mem_of_mem_drop (List.mem_of_mem_take h)
theorem cutD_len {ds : List D} {lo hi : Option Int} : (cutD ds lo hi).length ≤ ds.length := by
  unfold cutD
  rw [List.length_take, List.length_drop]
  omega
theorem eqOk_tupI (hs : List Int) : D.eqOk (.tup (hs.map .int)) = true := by
  have h1 : D.pure (.tup (hs.map D.int)) = true := pures_map D.int (fun _ => rfl) hs
  have h2 : ∀ l : List Int, PyData.canLayAll0 (D.pys (l.map D.int)) = true ∧ PyData.depthAll (D.pys (l.map D.int)) = 0 := fun l => by
    induction l with
    | nil => exact ⟨rfl, rfl⟩
    | cons x r ih => simp [D.pys, D.py, PyData.canLayAll0, PyData.canLay0, PyData.depthAll, PyData.depth, ih]
  unfold D.eqOk SeqAt.shaped
  rw [h1]
  simp only [D.py, PyData.canLay0, PyData.depth, (h2 hs).1, (h2 hs).2]
  rfl
theorem o_eqNilT (hs : List Int) : dEq (.tup (hs.map .int)) (.tup []) = some (.bl hs.isEmpty) := by
  unfold dEq
  rw [if_pos ⟨eqOk_tupI hs, rfl⟩]
  cases hs <;> rfl
theorem o_ixLI (l : List Int) {a : Nat} (ha : a < l.length) : dIx (.lst (l.map D.int)) (.int a) = some (.int (l.getD a 0)) := by
  rw [o_ixL, List.getElem?_map, List.getElem?_eq_getElem ha, List.getD_eq_getElem?_getD, List.getElem?_eq_getElem ha]
  rfl
end Fw
/-! ## N1 -/
set_option linter.all false
set_option maxRecDepth 100000
set_option maxHeartbeats 1000000
/-! Nets turned along their roads; plain. -/
namespace Fw
open PySem
structure Nt where
  n : Nat
  roads : List (Nat × Nat)
structure Nt.Ok (G : Nt) : Prop where
  n1 : 1 ≤ G.n
  n2 : G.n ≤ 20
  m1 : 1 ≤ G.roads.length
  m : G.roads.length ≤ 40
  rd : ∀ p ∈ G.roads, p.1 < G.n ∧ p.2 < G.n
/-- a turning: a mark, 0 or 1, each road -/
structure Tn (G : Nt) (t : List Nat) : Prop where
  len : t.length = G.roads.length
  le : ∀ x ∈ t, x ≤ 1
def Nt.at (G : Nt) (r : Nat) : Nat × Nat := G.roads.getD r (0, 0)
def Nt.tail (G : Nt) (t : List Nat) (r : Nat) : Nat := if t.getD r 0 = 0 then (G.at r).1 else (G.at r).2
def Nt.head (G : Nt) (t : List Nat) (r : Nat) : Nat := if t.getD r 0 = 0 then (G.at r).2 else (G.at r).1
theorem Nt.Ok.at_lt {G : Nt} (h : G.Ok) {r : Nat} (hr : r < G.roads.length) : (G.at r).1 < G.n ∧ (G.at r).2 < G.n := by
  unfold Nt.at
  rw [List.getD_eq_getElem?_getD, List.getElem?_eq_getElem hr]
  exact h.rd _ (List.getElem_mem hr)
theorem Nt.Ok.tail_lt {G : Nt} (h : G.Ok) {t : List Nat} {r : Nat} (hr : r < G.roads.length) : G.tail t r < G.n := by
  have := h.at_lt hr
  unfold Nt.tail
  split <;> omega
theorem Nt.Ok.head_lt {G : Nt} (h : G.Ok) {t : List Nat} {r : Nat} (hr : r < G.roads.length) : G.head t r < G.n := by
  have := h.at_lt hr
  unfold Nt.head
  split <;> omega
theorem Tn.bit {G : Nt} {t : List Nat} (h : Tn G t) {r : Nat} (hr : r < G.roads.length) : t.getD r 0 = 0 ∨ t.getD r 0 = 1 := by
  have hr' : r < t.length := by rw [h.len]; exact hr
  rw [List.getD_eq_getElem?_getD, List.getElem?_eq_getElem hr']
  have := h.le _ (List.getElem_mem hr')
  simp only [Option.getD_some]
  omega
/-! ### counts -/
def Nt.cnt (G : Nt) (t : List Nat) (k c : Nat) : Nat := ((List.range k).filter fun r => decide (G.tail t r = c)).length
def Nt.outs (G : Nt) (t : List Nat) (k : Nat) : List Nat := (List.range G.n).map (G.cnt t k)
theorem cnt_succ (G : Nt) (t : List Nat) (k c : Nat) : G.cnt t (k + 1) c = G.cnt t k c + if G.tail t k = c then 1 else 0 := by
  unfold Nt.cnt
  rw [List.range_succ, List.filter_append, List.length_append]
  congr 1
  by_cases h : G.tail t k = c
  · simp [h]
  · simp [h]
theorem outs_len (G : Nt) (t : List Nat) (k : Nat) : (G.outs t k).length = G.n := by simp [Nt.outs]
theorem outs_at (G : Nt) (t : List Nat) (k : Nat) {c : Nat} (hc : c < G.n) : (G.outs t k).getD c 0 = G.cnt t k c := by
  unfold Nt.outs
  simp [List.getD_eq_getElem?_getD, List.getElem?_map, List.getElem?_range hc]
theorem outs_succ (G : Nt) (t : List Nat) (k : Nat) : (G.outs t k).set (G.tail t k) ((G.outs t k).getD (G.tail t k) 0 + 1) = G.outs t (k + 1) := by
  by_cases hc : G.tail t k < G.n
  · apply List.ext_getElem?
    intro i
    rw [outs_at _ _ _ hc, List.getElem?_set]
    unfold Nt.outs
    rw [List.length_map, List.length_range]
    by_cases hi : i < G.n
    · by_cases e : G.tail t k = i
      · subst e
        rw [if_pos rfl, if_pos hc, List.getElem?_map, List.getElem?_range hi, Option.map_some, cnt_succ, if_pos rfl]
      · rw [if_neg e, List.getElem?_map, List.getElem?_map, List.getElem?_range hi, Option.map_some, Option.map_some, cnt_succ, if_neg e, Nat.add_zero]
    · have : G.tail t k ≠ i := fun e => hi (e ▸ hc)
      rw [if_neg this]
      simp [List.getElem?_eq_none (show (List.range G.n).length ≤ i by simp; omega)]
  · rw [List.set_eq_of_length_le (by rw [outs_len]; omega)]
    unfold Nt.outs
    apply List.map_congr_left
    intro c h
    have : c < G.n := List.mem_range.mp h
    rw [cnt_succ, if_neg (by omega), Nat.add_zero]
theorem outs_zero (G : Nt) (t : List Nat) : G.outs t 0 = List.replicate G.n 0 := by
  unfold Nt.outs Nt.cnt
  apply List.ext_getElem?
  intro i
  rw [List.getElem?_map, List.getElem?_replicate]
  by_cases h : i < G.n
  · simp [List.getElem?_range h, h]
  · simp [h]
/-- over a lot without a crossing twice -/
theorem sum_lot {G : Nt} {t : List Nat} {lot : List Nat} (hn : lot.Nodup) : ∀ k, (lot.map (G.cnt t k)).sum = ((List.range k).filter fun r => decide (G.tail t r ∈ lot)).length
  | 0 => by
    have : ∀ l : List Nat, (l.map (G.cnt t 0)).sum = 0 := fun l => by
      induction l with
      | nil => rfl
      | cons x r ih => rw [List.map_cons, List.sum_cons, ih]; rfl
    rw [this]
    rfl
  | k + 1 => by
    have ih := sum_lot hn (G := G) (t := t) k
    have key : ∀ l : List Nat, l.Nodup → (l.map (G.cnt t (k + 1))).sum = (l.map (G.cnt t k)).sum + if G.tail t k ∈ l then 1 else 0 := fun l hl => by
      induction l with
      | nil => rfl
      | cons x r ih2 =>
        obtain ⟨h1, h2⟩ := List.nodup_cons.mp hl
        rw [List.map_cons, List.map_cons, List.sum_cons, List.sum_cons, ih2 h2, cnt_succ]
        by_cases e : G.tail t k = x
        · subst e
          rw [if_pos rfl, if_neg h1, if_pos (List.mem_cons_self ..)]
          omega
        · rw [if_neg e]
          by_cases m : G.tail t k ∈ r
          · rw [if_pos m, if_pos (List.mem_cons_of_mem _ m)]; omega
          · rw [if_neg m, if_neg (by simp [e, m])]; omega
    rw [key lot hn, ih, List.range_succ, List.filter_append, List.length_append]
    congr 1
    by_cases h : G.tail t k ∈ lot
    · simp [h]
    · simp [h]
theorem sum_outs {G : Nt} (hG : G.Ok) {t : List Nat} : (G.outs t G.roads.length).sum = G.roads.length := by
  have h := sum_lot (G := G) (t := t) (List.nodup_range (n := G.n)) G.roads.length
  unfold Nt.outs
  rw [h]
  rw [List.filter_eq_self.mpr]
  · simp
  · intro r hr
    exact decide_eq_true (List.mem_range.mpr (hG.tail_lt (List.mem_range.mp hr)))
/-! ### what is met from a crossing -/
inductive Rch (G : Nt) (t : List Nat) (c : Nat) : Nat → Prop
  | refl : Rch G t c c
  | step {r : Nat} : Rch G t c (G.tail t r) → r < G.roads.length → Rch G t c (G.head t r)
/-- no road leads out -/
def Shut (G : Nt) (t : List Nat) (ks : List Nat) : Prop := ∀ r, r < G.roads.length → G.tail t r ∈ ks → G.head t r ∈ ks
theorem shut_all {G : Nt} {t : List Nat} {ks : List Nat} {c : Nat} (hs : Shut G t ks) (hc : c ∈ ks) {d : Nat} (h : Rch G t c d) : d ∈ ks := by
  induction h with
  | refl => exact hc
  | step _ hr ih => exact hs _ hr ih
/-- a list of just the crossings that are met -/
structure Led (G : Nt) (t : List Nat) (c : Nat) (ks : List Nat) : Prop where
  nd : ks.Nodup
  eq : ∀ d, d ∈ ks ↔ Rch G t c d
theorem Led.of {G : Nt} {t : List Nat} {c : Nat} {ks : List Nat} (nd : ks.Nodup) (hc : c ∈ ks) (hr : ∀ d ∈ ks, Rch G t c d) (hs : Shut G t ks) : Led G t c ks := ⟨nd, fun d => ⟨hr d, shut_all hs hc⟩⟩
theorem Led.perm {G : Nt} {t : List Nat} {c : Nat} {ks ks' : List Nat} (h : Led G t c ks) (h' : Led G t c ks') : ks.Perm ks' :=
  (List.perm_ext_iff_of_nodup h.nd h'.nd).mpr fun d => (h.eq d).trans (h'.eq d).symm
theorem nodup_le : ∀ {n : Nat} {ks : List Nat}, ks.Nodup → (∀ k ∈ ks, k < n) → ks.length ≤ n
  | 0, ks, _, h => by
    cases ks with
    | nil => exact Nat.le_refl _
    | cons k r => exact absurd (h k (List.mem_cons_self ..)) (Nat.not_lt_zero _)
  | n + 1, ks, nd, h => by
    by_cases m : n ∈ ks
    · have h1 := nodup_le (n := n) (nd.erase n) fun k hk => by
        obtain ⟨a, b⟩ := nd.mem_erase_iff.mp hk
        have := h k b
        omega
      rw [List.length_erase_of_mem m] at h1
      have : 0 < ks.length := List.length_pos_of_mem m
      omega
    · have h1 := nodup_le (n := n) nd fun k hk => by
        have := h k hk
        have : k ≠ n := fun e => m (e ▸ hk)
        omega
      omega
/-! ### going over the roads, lap by lap -/
def addN (ks : List Nat) (k : Nat) : List Nat := if k ∈ ks then ks else ks ++ [k]
def relax (G : Nt) (t : List Nat) (ks : List Nat) (r : Nat) : List Nat := if G.tail t r ∈ ks then addN ks (G.head t r) else ks
def relaxs (G : Nt) (t : List Nat) (k : Nat) (ks : List Nat) : List Nat := (List.range k).foldl (relax G t) ks
theorem relaxs_succ (G : Nt) (t : List Nat) (k : Nat) (ks : List Nat) : relaxs G t (k + 1) ks = relax G t (relaxs G t k ks) k := foldl_range _ _ _
structure Met (G : Nt) (t : List Nat) (c : Nat) (ks : List Nat) : Prop where
  nd : ks.Nodup
  hc : c ∈ ks
  rc : ∀ d ∈ ks, Rch G t c d
theorem nodup_snoc {ks : List Nat} {k : Nat} (h : ks.Nodup) (hk : k ∉ ks) : (ks ++ [k]).Nodup := by
  rw [List.nodup_append]
  refine ⟨h, by simp, fun a ha b hb => ?_⟩
  rw [List.mem_singleton.mp hb]
  exact fun e => hk (e ▸ ha)
theorem Met.snoc {G : Nt} {t : List Nat} {c : Nat} {ks : List Nat} (h : Met G t c ks) {d : Nat} (hd : Rch G t c d) (hn : d ∉ ks) : Met G t c (ks ++ [d]) :=
  ⟨nodup_snoc h.nd hn, List.mem_append_left _ h.hc, fun e he => (List.mem_append.mp he).elim (h.rc e) fun q => by rw [List.mem_singleton.mp q]; exact hd⟩
theorem Met.one (G : Nt) (t : List Nat) (c : Nat) : Met G t c [c] := ⟨by simp, by simp, fun d hd => by rw [List.mem_singleton.mp hd]; exact .refl⟩
theorem Rch.lt {G : Nt} (hG : G.Ok) {t : List Nat} {c d : Nat} (hc : c < G.n) (h : Rch G t c d) : d < G.n := by
  cases h with
  | refl => exact hc
  | step _ hr => exact hG.head_lt hr
theorem Met.le {G : Nt} (hG : G.Ok) {t : List Nat} {c : Nat} {ks : List Nat} (hc : c < G.n) (h : Met G t c ks) : ks.length ≤ G.n := nodup_le h.nd fun k hk => (h.rc k hk).lt hG hc
theorem Met.relax {G : Nt} {t : List Nat} {c : Nat} {ks : List Nat} (h : Met G t c ks) {r : Nat} (hr : r < G.roads.length) : Met G t c (relax G t ks r) := by
  unfold Fw.relax addN
  split
  · rename_i h1
    split
    · exact h
    · rename_i h2
      exact h.snoc (.step (h.rc _ h1) hr) h2
  · exact h
theorem Met.relaxs {G : Nt} {t : List Nat} {c : Nat} {ks : List Nat} (h : Met G t c ks) : ∀ k, k ≤ G.roads.length → Met G t c (relaxs G t k ks)
  | 0, _ => h
  | k + 1, hk => by
    rw [relaxs_succ]
    exact (Met.relaxs h k (by omega)).relax (by omega)
theorem relax_len (G : Nt) (t : List Nat) (ks : List Nat) (r : Nat) : ks.length ≤ (relax G t ks r).length ∧ ((relax G t ks r).length = ks.length → relax G t ks r = ks ∧ (G.tail t r ∈ ks → G.head t r ∈ ks)) := by
  unfold relax addN
  split
  · rename_i h1
    split
    · rename_i h2
      exact ⟨Nat.le_refl _, fun _ => ⟨rfl, fun _ => h2⟩⟩
    · rw [List.length_append]
      exact ⟨by simp, fun e => by simp at e⟩
  · rename_i h1
    exact ⟨Nat.le_refl _, fun _ => ⟨rfl, fun h => absurd h h1⟩⟩
theorem relaxs_len (G : Nt) (t : List Nat) (ks : List Nat) : ∀ k, ks.length ≤ (relaxs G t k ks).length ∧ ((relaxs G t k ks).length = ks.length → relaxs G t k ks = ks ∧ ∀ r, r < k → G.tail t r ∈ ks → G.head t r ∈ ks)
  | 0 => ⟨Nat.le_refl _, fun _ => ⟨rfl, fun r hr => absurd hr (Nat.not_lt_zero _)⟩⟩
  | k + 1 => by
    obtain ⟨a, b⟩ := relaxs_len G t ks k
    obtain ⟨a2, b2⟩ := relax_len G t (relaxs G t k ks) k
    rw [relaxs_succ]
    refine ⟨Nat.le_trans a a2, fun e => ?_⟩
    have e1 : (relaxs G t k ks).length = ks.length := by omega
    obtain ⟨c1, c2⟩ := b e1
    rw [c1] at b2 e ⊢
    obtain ⟨d1, d2⟩ := b2 e
    refine ⟨d1, fun r hr => ?_⟩
    by_cases h : r < k
    · exact c2 r h
    · have : r = k := by omega
      subst this
      exact d2
theorem shut_relaxs {G : Nt} {t : List Nat} {ks : List Nat} (h : Shut G t ks) : ∀ k, k ≤ G.roads.length → relaxs G t k ks = ks
  | 0, _ => rfl
  | k + 1, hk => by
    rw [relaxs_succ, shut_relaxs h k (by omega)]
    unfold relax addN
    split
    · rename_i h1
      rw [if_pos (h k (by omega) h1)]
    · rfl
def laps (G : Nt) (t : List Nat) (k c : Nat) : List Nat := (List.range k).foldl (fun ks _ => relaxs G t G.roads.length ks) [c]
theorem laps_succ (G : Nt) (t : List Nat) (k c : Nat) : laps G t (k + 1) c = relaxs G t G.roads.length (laps G t k c) := foldl_range _ _ _
theorem laps_met (G : Nt) (t : List Nat) (c : Nat) : ∀ k, Met G t c (laps G t k c)
  | 0 => Met.one G t c
  | k + 1 => by
    rw [laps_succ]
    exact (laps_met G t c k).relaxs _ (Nat.le_refl _)
theorem laps_go (G : Nt) (t : List Nat) (c : Nat) : ∀ k, Shut G t (laps G t k c) ∨ k + 1 ≤ (laps G t k c).length
  | 0 => .inr (Nat.le_refl _)
  | k + 1 => by
    rw [laps_succ]
    rcases laps_go G t c k with h | h
    · left
      rw [shut_relaxs h _ (Nat.le_refl _)]
      exact h
    · obtain ⟨a, b⟩ := relaxs_len G t (laps G t k c) G.roads.length
      by_cases e : (relaxs G t G.roads.length (laps G t k c)).length = (laps G t k c).length
      · left
        obtain ⟨b1, b2⟩ := b e
        rw [b1]
        exact b2
      · right
        omega
theorem laps_led {G : Nt} (hG : G.Ok) {t : List Nat} {c : Nat} (hc : c < G.n) : Led G t c (laps G t G.n c) := by
  have h := laps_met G t c G.n
  rcases laps_go G t c G.n with s | s
  · exact .of h.nd h.hc h.rc s
  · have := h.le hG hc
    omega
end Fw
/-! ## FwG -/
set_option Elab.async false
set_option linter.all false
set_option maxRecDepth 100000
set_option maxHeartbeats 2000000
/-! Promises of defs where nothing that shows a value is under way (repr of lists, tuples needs it). -/
namespace Fw
open PySem PySem.Spec PyProof.Rows L2

structure RoomG (k : Nat) (A : Around) : Prop extends Room k A where
  gd : A.guards = some []
theorem RoomG.mono {j k : Nat} {A : Around} (r : RoomG k A) (h : j ≤ k) : RoomG j A := ⟨r.toRoom.mono h, r.gd⟩
theorem RoomG.deeper {k : Nat} {A : Around} (r : RoomG (k + 1) A) (env : PySem.Env) : RoomG k (A.deeper env) := ⟨r.toRoom.deeper env, r.gd⟩
theorem RoomG.in1 {k : Nat} {A : Around} (r : RoomG (k + 1) A) : RoomG k A.in1 := ⟨r.toRoom.in1, r.gd⟩
structure FnG (P : Program) (w : World) (K : PySem.W.Frag) (mg : Str → Option Value) (base : Heap) (CX : CXT) (k : Nat) (f : Addr) (fd : FuncData) (ps : List Str) (sp : Sp) : Prop where
  len : ∀ vs H Q E, sp vs H Q E → vs.length = ps.length
  run : ∀ (A : Around) (outer : List PySem.Env) (s : Shared) (H : Hp) (args : Args) (us : List Value) (vs : List V) (Q : VK) (E : XK), RoomG k A → Env0 P w K mg base A outer s H → BindsTo s fd args (ps.zip us) → Vals vs us → sp vs H Q E →
    codeAny (model P w) A (.call (.ref f) args) (CR CX outer P w H s Q E) s
section
variable {P : Program} {w : World} {K : PySem.W.Frag} {mg : Str → Option Value} {base : Heap} {CX : CXT} {j k : Nat} {f : Addr} {fd : FuncData} {ps : List Str} {sp sp' : Sp}
theorem FnG.of (F : FnOk P w K mg base CX k f fd ps sp) : FnG P w K mg base CX k f fd ps sp := ⟨F.len, fun A outer s H args us vs Q E hr => F.run A outer s H args us vs Q E hr.toRoom⟩
theorem FnG.mono (F : FnG P w K mg base CX j f fd ps sp) (h : j ≤ k) : FnG P w K mg base CX k f fd ps sp := ⟨F.len, fun A outer s H args us vs Q E hr => F.run A outer s H args us vs Q E (hr.mono h)⟩
theorem FnG.imp (F : FnG P w K mg base CX k f fd ps sp) (h : ∀ vs H Q E, sp' vs H Q E → sp vs H Q E) : FnG P w K mg base CX k f fd ps sp' :=
  ⟨fun vs H Q E q => F.len vs H Q E (h _ _ _ _ q), fun A outer s H args us vs Q E hr he hb hv hs => F.run A outer s H args us vs Q E hr he hb hv (h _ _ _ _ hs)⟩
end
section
variable {X : Cx} {CX : CXT} {k : Nat} {f C : Addr} {fd : FuncData} {ps : List Str} {sp : Sp} {dvs : List V} {ds : List Value} {E : XK} {x m : Str} {p pos apos : Pos} {e o : Expr} {es : List Expr} {ta : TE} {t : TA}
theorem run_fnG {pins : List (Addr × Obj)} {σ : L2.St} {H : Hp} {s : Shared} {Q : VK} {us : List Value} {vs : List V} (F : FnG X.prog X.w X.K X.mg X.base CX k f fd ps sp) (hr : RoomG k X.A) (hb : Binds X.K fd ps ds) (hd : Vals dvs ds) (hx : Passes CX X E)
    (I : Inv X pins σ H s) (r : Vals vs us) (h : sp (vs ++ dvs) H Q E) : wpAny (model X.prog X.w) X.A (call (.ref f) us) (EP X pins σ Q) X.xe s := by
  have r2 : Vals (vs ++ dvs) (us ++ ds) := r.append hd
  have hl : (us ++ ds).length = ps.length := by rw [← r2.length]; exact F.len _ _ _ _ h
  refine wpAny_call (codeAny_mono (F.run X.A X.stack s H ⟨us, []⟩ (us ++ ds) (vs ++ dvs) Q E hr I.env0 (hb s us I.kIn hl) r2 h) fun r s' hq => ?_)
  cases r with
  | error e => exact hx pins σ H s e s' I hq
  | ok fl =>
    cases fl with
    | ret u => exact I.after hq
    | next => exact False.elim hq
    | brk => exact False.elim hq
    | cont => exact False.elim hq
theorem pe_callG (F : FnG X.prog X.w X.K X.mg X.base CX k f fd ps sp) (hr : RoomG k X.A) (hg : Gl X x) (hm : X.mg x = some (.ref f)) (hk : PySem.W.keepIn X.K (.ref f) = true) (hb : Binds X.K fd ps ds) (hd : Vals dvs ds) (hx : Passes CX X E)
    (ha : PA X (e :: es) t) (hdb : (x == ("__debug__" : Str)) = false := by decide) (he : starEach (e :: es) X.env = (false, eval e X.env) :: starEach es X.env := by rfl) (hpl : (backTo pos (starEach es X.env)).any (·.1) = false := by rfl) :
    PE X (.Call (.Name x p) (e :: es) [] pos) (tCall sp dvs E t) := by
  refine ⟨fun pins s σ H Q I h => ?_⟩
  refine wpAny_Call_Name_kw (ld_glob I hg hm ?_ hdb)
  refine PySem.W.callWith_K (h₀ := X.base) I.ok.mod.kin hk (thn (ha.run pos pins s σ H _ I h) fun us s1 ⟨vs, H1, I1, r, q⟩ => ⟨I1.kIn, ?_⟩) he hpl
  exact run_fnG F hr hb hd hx I1 r q
theorem pe_call0G (F : FnG X.prog X.w X.K X.mg X.base CX k f fd ps sp) (hr : RoomG k X.A) (hg : Gl X x) (hm : X.mg x = some (.ref f)) (hk : PySem.W.keepIn X.K (.ref f) = true) (hb : Binds X.K fd ps ds) (hd : Vals dvs ds) (hx : Passes CX X E)
    (hdb : (x == ("__debug__" : Str)) = false := by decide) : PE X (.Call (.Name x p) [] [] pos) (tCall sp dvs E tNil) := by
  refine ⟨fun pins s σ H Q I h => ?_⟩
  refine wpAny_Call_Name_kw (ld_glob I hg hm ?_ hdb)
  exact PySem.W.callWith_K0 I.kIn hk (run_fnG (us := []) F hr hb hd hx I .nil h)
end
theorem fn_ofG {CX : CXT} {P : Program} {w : World} {K : PySem.W.Frag} {mg : Str → Option Value} {base : Heap} {k : Nat} {f : Addr} {name qual : Str} {params : Arguments} {body : List Stmt} {scope : Scope} {dV kV doc pm cdv ct oc : Value} {an od : Option Addr}
    {osl : Array (Option Value)} {N ps : List Str} {sp : Sp} (lk : K.lookup f = some ⟨oc, od, .func (PySem.W.fnOf name qual params body scope dV kV doc pm an cdv ct), osl⟩) (hcd : PySem.W.codeIn K cdv qual = true) (S : FnScope N ps scope)
    (len : ∀ vs H Q E, sp vs H Q E → vs.length = ps.length)
    (hbody : ∀ (A : Around) (outer : List PySem.Env) (s : Shared) (H : Hp) (vs : List V) (Q : VK) (E : XK), RoomG k (A.deeper (envOfC qual scope s.heap.objs.size f cdv)) → sp vs H Q E →
      ∃ t, PSs (cxOf CX P w K mg base N qual scope f cdv A outer s H E) body t ∧ t { nx := fun _ H' => Q .non H', rt := Q } (start N vs) H) :
    FnG P w K mg base CX (k + 1) f (PySem.W.fnOf name qual params body scope dV kV doc pm an cdv ct) ps sp := by
  refine ⟨len, fun A outer s H args us vs Q E hr e0 hb r hsp => ?_⟩
  have hl := len _ _ _ _ hsp
  have KX : K.In s.heap := e0.mod.kin.keeps fun b o e => (e0.bs b o e).1
  have lim : s.heap.NoLimit := e0.mod.nolimit.keeps fun b o e => (e0.bs b o e).1
  have hkind : ∀ y ∈ ps.zip us, scope.names.lookup y.1 = some .local ∨ (scope.names.lookup y.1 = some .cell ∧ ((cellsFrom (s.heap.objs.size + 1) scope.names []).lookup y.1).isSome = true) := fun ⟨n, v⟩ hy => by
    rcases S.par n (List.of_mem_zip hy).1 with q | q
    · exact .inl q
    · exact .inr ⟨q, PySem.W.cellsFrom_some _ _ _ (.inl q)⟩
  refine codeAny_call_function hr.depth (KX _ _ lk) rfl S.co S.gen rfl (PySem.W.codeRec_of KX hcd) (hb _ _ _ _ ?_)
  refine wpAny_newFunctionEnv_cells S.kind hkind fun env he s1 x => ?_
  subst he
  refine ⟨lim.keeps x.toInCall.keep, codeAny_func ?_⟩
  obtain ⟨t, ht, hq⟩ := hbody A outer s H vs Q E (hr.deeper _) hsp
  have I : Inv (cxOf CX P w K mg base N qual scope f cdv A outer s H E) [] (start N vs) H s1 := inv_start S hr.hd e0 hl r x
  refine wpAny_mono (ht.run [] s1 (start N vs) H _ I hq) (fun fl s' hs => ?_) fun e s' hs => hs
  have fin : ∀ {σ' : L2.St} {H' : Hp} {v : V} {u : Value}, Inv (cxOf CX P w K mg base N qual scope f cdv A outer s H E) [] σ' H' s' → RelV v u → Q v H' → CE outer P w H s Q u s' :=
    fun {σ' H' v u} J rv q => ⟨v, H', J.os, J.bare, J.base, J.hok, rv, q⟩
  cases fl with
  | ret u =>
    obtain ⟨v, σ', H', J, rv, q⟩ := hs
    exact fin J rv q
  | next =>
    obtain ⟨σ', H', J, q⟩ := hs
    exact fin (v := V.non) (u := Value.none) J rfl q
  | brk =>
    obtain ⟨_, _, _, q⟩ := hs
    exact False.elim q
  | cont =>
    obtain ⟨_, _, _, q⟩ := hs
    exact False.elim q
theorem fun_okG {P : Program} {w : World} {K : PySem.W.Frag} {mg : Str → Option Value} {base : Heap} {x qual : Str} {st : Stmt} {f : Addr} {fd : FuncData} {N ps : List Str} {k : Nat} {sp : Sp} (F : Fun K x qual st f fd) (S : FnScope N ps (defScope st)) (len : ∀ vs H Q E, sp vs H Q E → vs.length = ps.length)
    (hbody : ∀ (cdv : Value) (A : Around) (outer : List PySem.Env) (s : Shared) (H : Hp) (vs : List V) (Q : VK) (E : XK), RoomG k (A.deeper (envOfC qual (defScope st) s.heap.objs.size f cdv)) → sp vs H Q E →
      ∃ t, PSs (cxOf CX0 P w K mg base N qual (defScope st) f cdv A outer s H E).nox (defBody st) t ∧ t { nx := fun _ H' => Q .non H', rt := Q } (start N vs) H) : FnG P w K mg base CX0 (k + 1) f fd ps sp := by
  obtain ⟨oc, od, kV, doc, pm, an, cdv, ct, osl, rfl, lk, hcd⟩ := F.ex
  refine fn_ofG lk hcd S len fun A outer s H vs Q E hr hsp => ?_
  obtain ⟨t, h, q⟩ := hbody cdv A outer s H vs Q E hr hsp
  exact ⟨t, h.nox, q⟩
theorem law_callG {P : Program} {w : World} {K : PySem.W.Frag} {mg mb : Str → Option Value} {CX : CXT} {k : Nat} {fa a : Addr} {fd : FuncData} {x : Str} {sp : Sp} {s₁ : Shared} {vs : List Value} {ns : List Int}
    (KX : K.In s₁.heap) (hns : s₁.heap.Ns mainGlobals mg) (hb : s₁.heap.Ns builtinsNs mb) (hbb : ∀ x : Str, x ≠ "__name__" → mb x = bootBuiltins x) (hlim : s₁.heap.NoLimit) (hg : s₁.gens = #[])
    (ha : s₁.heap.get? a = some { cls := .type "list", data := .seq vs.toArray }) (hi : IntsAre vs ns) (hl : ns.length ≤ sizeLine) (hr : RoomG k callerA)
    (F : ∀ base : Heap, K.In base → base.Ns mainGlobals mg → FnG P w K mg base CX k fa fd [x] sp) (hbind : ∀ (s : Shared) (u : Value), BindsTo s fd ⟨[u], []⟩ [(x, u)])
    (hsp : ∀ H : Hp, Only H → SqL K H a (ns.map V.int) → sp [.ref a] H (fun v _ => v = .bl true) fun _ _ _ => False)
    (hCX : ∀ H e s', CX [] H s₁ (fun _ _ _ => False) e s' → False) :
    codeAny (model P w) callerA (.call (.ref fa) ⟨[.ref a], []⟩) (fun r s' => r = .ok (.ret (.bool true)) ∧ OldK s₁.heap s'.heap ∧ s'.os = s₁.os ∧ AllBare s'.gens) s₁ := by
  have rv := vals_ints hi
  have lenV := hi.length
  have core : ∀ H : Hp, Only H → SqL K H a (ns.map V.int) → HOk P w H s₁.heap → (∀ b, H b ≠ none → b = a) → (H a ≠ none → K.lookup a = none) →
      codeAny (model P w) callerA (.call (.ref fa) ⟨[.ref a], []⟩) (fun r s' => r = .ok (.ret (.bool true)) ∧ OldK s₁.heap s'.heap ∧ s'.os = s₁.os ∧ AllBare s'.gens) s₁ := by
    intro H hO hS hok hA hK
    have base_of : ∀ {b : Addr} {o : Obj}, s₁.heap.get? b = some o → H b = none → (hidT s₁.heap H).get? b = some o := fun e n => hidT_get e n
    have noA : ∀ {b : Addr} {o : Obj} {es : Array DictEntry} {ep : Nat}, s₁.heap.get? b = some o → o.data = .dict es ep → H b = none := fun {b o es ep} e d => by
      cases q : H b with
      | none => rfl
      | some u =>
        have e' : b = a := hA b (by rw [q]; simp)
        subst e'
        rw [ha] at e; cases e
        have d' : Data.seq vs.toArray _ = Data.dict es ep := d
        cases d'
    have nsK : ∀ {b : Addr} {m : Str → Option Value}, s₁.heap.Ns b m → (hidT s₁.heap H).Ns b m := fun {b m} ⟨o, es, ep, e, d, r⟩ => ⟨o, es, ep, base_of e (noA e d), d, r⟩
    have hKb : K.In (hidT s₁.heap H) := fun b o e => base_of (KX b o e) (by
      cases q : H b with
      | none => rfl
      | some u =>
        have e' : b = a := hA b (by rw [q]; simp)
        subst e'
        rw [hK (by rw [q]; simp)] at e; cases e)
    have hM : Mod K mg (hidT s₁.heap H) := ⟨hKb, nsK hns, ⟨mb, nsK hb, hbb⟩, let ⟨mc, h1, h2⟩ := hlim; ⟨mc, nsK h1, h2⟩⟩
    have e0 : Env0 P w K mg (hidT s₁.heap H) callerA [] s₁ H := ⟨rfl, hM, fun b o e => of_hidT e, Nat.le_of_eq (hidT_size _ _), trivial, fun b hb => absurd (show b ∈ ([] : List Addr) from hb) (by simp), hok, .of_eq hg⟩
    refine codeAny_mono ((F _ hKb (nsK hns)).run callerA [] s₁ H ⟨[.ref a], []⟩ [.ref a] [.ref a] _ _ hr e0 (hbind s₁ (.ref a)) (.cons rfl .nil) (hsp H hO hS)) fun r s' h => ?_
    cases r with
    | error e => exact (hCX H e s' h).elim
    | ok fl =>
      cases fl with
      | next => exact False.elim h
      | brk => exact False.elim h
      | cont => exact False.elim h
      | ret u =>
        obtain ⟨v, H', os, bare, un, hok', r', q⟩ := h
        have q' : v = .bl true := q
        subst q'
        obtain rfl : u = Value.bool true := r'
        refine ⟨rfl, OldK.of_keep fun b o e => ?_, os, bare⟩
        cases q : H b with
        | none => exact un.keep b o e q (by intro z; exact absurd (show b ∈ ([] : List Addr) from z) (by simp)) (by simp)
        | some u =>
          rcases hO b with z | ⟨ob, xs, z⟩
          · rw [q] at z; cases z
          · have z2 := un.frzs b ob _ z
            obtain ⟨e1, _⟩ := hok b _ z
            obtain ⟨e2, _⟩ := hok' b _ z2
            rw [e] at e1; cases e1
            exact e2
  cases hk : K.lookup a with
  | some o =>
    have e := KX a o hk
    rw [ha] at e
    cases e
    refine core (fun _ => none) (fun _ => .inl rfl) (.inr ⟨_, vs.toArray, _, hk, rfl, rfl, rfl, by rw [List.size_toArray, lenV]; exact hl, by simpa using rv⟩) (fun b u z => by have z' : (none : Option HO) = some u := z; cases z') (fun b z => absurd rfl z) fun z => absurd rfl z
  | none =>
    refine core (fun b => if b = a then some (.frz { cls := .type "list", data := .seq vs.toArray } (.lst (ns.map V.int))) else none) (fun b => ?_) (.inl (.inr ⟨{ cls := .type "list", data := .seq vs.toArray }, if_pos rfl⟩)) (fun b u z => ?_) (fun b z => ?_) fun _ => hk
    · by_cases hb : b = a
      · exact .inr ⟨_, _, if_pos hb⟩
      · exact .inl (if_neg hb)
    · by_cases hb : b = a
      · have z' := (if_pos hb).symm.trans z
        cases z'
        subst hb
        exact ⟨ha, by rw [List.length_map]; exact hl, vs, _, rv, ha⟩
      · have z' := (if_neg hb).symm.trans z
        cases z'
    · by_cases hb : b = a
      · exact hb
      · exact absurd (if_neg hb) z
theorem walk_ofG {l : PySem.W.OpenLaw} {n k : Nat} {q : Program} {loose : List Str} {XP : (Str → Option Value) → Heap → Prop} {YP : World → Heap → Prop} {d : DefRec} {CX : CXT} {x : Str}
    (hn : l.most = some n) (hn2 : n ≤ sizeLine) (hdf : d.params.defaults = []) (hr : RoomG k callerA)
    (F : ∀ (w : World) (mg : Str → Option Value) (fa : Addr) (h : Heap), YP w h → h.Ns mainGlobals mg → mg d.name = some (.ref fa) →
      ∃ (K : PySem.W.Frag) (fd : FuncData) (sp : Sp), K.In h ∧ (∀ (s : Shared) (u : Value), BindsTo s fd ⟨[u], []⟩ [(x, u)]) ∧
        (∀ (H : Hp) (a : Addr) (ns : List Int), ns.length ≤ n → Only H → SqL K H a (ns.map V.int) → sp [.ref a] H (fun v _ => v = .bl true) fun _ _ _ => False) ∧
        ∀ base : Heap, K.In base → base.Ns mainGlobals mg → FnG l.prog w K mg base CX k fa fd [x] sp)
    (hCX : ∀ (H : Hp) (s : Shared) (e : Value) (s' : Shared), CX [] H s (fun _ _ _ => False) e s' → False) :
    PySem.W.WalkO q loose XP YP l.row.toRowW d [] (fun f vs => PySem.call f vs) := by
  refine Att.attach_call hn hdf fun w s₀ s₁ mg mb fa o pm cd doc a vs ns G Y ho hd hcd hmg hobj hints hlen hg => ?_
  obtain ⟨K, fd, sp, KX, hb, hsp, hF⟩ := F w mg fa _ Y G.T.g hmg
  exact law_callG KX G.T.g G.T.b G.T.builtins G.T.nolimit hg hobj hints (Nat.le_trans hlen hn2) hr hF hb (fun H hO hS => hsp H a ns hlen hO hS) fun H e s' => hCX H s₁ e s'
end Fw
/-! ## FwT -/
set_option Elab.async false
set_option linter.all false
set_option maxRecDepth 100000
/-! From readings of the hand layer to the functional meaning. -/
namespace Fw
open PySem PySem.Spec PyProof.Rows L2

/-! ### heaps, data -/
def Sub (A B : Hp) : Prop := ∀ x o, A x = some o → B x = some o
theorem Sub.refl (A : Hp) : Sub A A := fun _ _ h => h
theorem Sub.trans {A B C : Hp} (a : Sub A B) (b : Sub B C) : Sub A C := fun x o h => b x o (a x o h)
theorem Sub.upd {A : Hp} {p : Addr} {o : HO} (h : A p = none) : Sub A (upd A p o) := fun x u e => by
  rw [upd_ne (ne_of_none e h)]; exact e
theorem Sub.updR {A B : Hp} {p : Addr} {o : HO} (s : Sub A B) (h : A p = none) : Sub A (L2.upd B p o) := fun x u e => by
  rw [upd_ne (ne_of_none e h)]; exact s x u e
theorem Sub.upd2 {A B : Hp} {p : Addr} {o : HO} (s : Sub A B) : Sub (L2.upd A p o) (L2.upd B p o) := fun x u e => by
  by_cases hx : x = p
  · subst hx; rw [upd_same] at e ⊢; exact e
  · rw [upd_ne hx] at e ⊢; exact s x u e
theorem Sub.none {A B : Hp} (s : Sub A B) {x : Addr} (h : B x = none) : A x = none := by
  cases q : A x with
  | none => rfl
  | some o => rw [s x o q] at h; cases h
theorem Sub.seqT {K : PySem.W.Frag} {H H' : Hp} {a : Addr} {xs : List V} (e : Sub H H') (h : SqT K H a xs) : SqT K H' a xs := by
  rcases h with (h | ⟨o, h⟩) | h
  · exact .inl (.inl (e _ _ h))
  · exact .inl (.inr ⟨o, e _ _ h⟩)
  · exact .inr h

def KvR (K : PySem.W.Frag) (R : V → D → Prop) : List (L2.Key × V) → List (Key × D) → Prop
  | [], [] => True
  | (k, v) :: r, (k', d) :: q => k = k' ∧ R v d ∧ KvR K R r q
  | _, _ => False

mutual
/-- v stands for d in the heap F -/
inductive Dv (K : PySem.W.Frag) (F : Hp) : V → D → Prop
  | non : Dv K F .non .non
  | bl (b : Bool) : Dv K F (.bl b) (.bl b)
  | int (i : Int) : Dv K F (.int i) (.int i)
  | str (x : Str) : Dv K F (.str x) (.str x)
  | lst {a : Addr} {xs : List V} {ds : List D} : F a = some (.lst xs) → xs.length ≤ sizeLine → Dvs K F xs ds → Dv K F (.ref a) (.lst ds)
  | tup {a : Addr} {xs : List V} {ds : List D} : SqT K F a xs → xs.length ≤ sizeLine → Dvs K F xs ds → Dv K F (.ref a) (.tup ds)
  | dct {a : Addr} {ks : List L2.Key} {xs : List V} {ds : List D} : F a = some (.dK (ks.zip xs)) → Dvs K F xs ds → ks.length = xs.length → Dv K F (.ref a) (.dct (ks.zip ds))
  | obj (a : Addr) : Dv K F (.ref a) (.obj a)
inductive Dvs (K : PySem.W.Frag) (F : Hp) : List V → List D → Prop
  | nil : Dvs K F [] []
  | cons {v : V} {vs : List V} {d : D} {ds : List D} : Dv K F v d → Dvs K F vs ds → Dvs K F (v :: vs) (d :: ds)
end
mutual
theorem Dv.mono {K : PySem.W.Frag} {F F' : Hp} (e : Sub F F') : ∀ {v : V} {d : D}, Dv K F v d → Dv K F' v d
  | _, _, .non => .non
  | _, _, .bl b => .bl b
  | _, _, .int i => .int i
  | _, _, .str x => .str x
  | _, _, .lst h z r => .lst (e _ _ h) z (Dvs.mono e r)
  | _, _, .tup h z r => .tup (e.seqT h) z (Dvs.mono e r)
  | _, _, .dct h r l => .dct (e _ _ h) (Dvs.mono e r) l
  | _, _, .obj a => .obj a
theorem Dvs.mono {K : PySem.W.Frag} {F F' : Hp} (e : Sub F F') : ∀ {vs : List V} {ds : List D}, Dvs K F vs ds → Dvs K F' vs ds
  | _, _, .nil => .nil
  | _, _, .cons h r => .cons (Dv.mono e h) (Dvs.mono e r)
end
theorem Dvs.length {K : PySem.W.Frag} {F : Hp} : ∀ {vs : List V} {ds : List D}, Dvs K F vs ds → vs.length = ds.length
  | _, _, .nil => rfl
  | _, _, .cons _ r => by rw [List.length_cons, List.length_cons, Dvs.length r]
theorem Dvs.get {K : PySem.W.Frag} {F : Hp} : ∀ {vs : List V} {ds : List D} (i : Nat) {d : D}, Dvs K F vs ds → ds[i]? = some d → ∃ v, vs[i]? = some v ∧ Dv K F v d
  | _, _, i, _, .nil, h => by simp at h
  | _, _, 0, _, .cons h r, e => by
    simp only [List.getElem?_cons_zero, Option.some.injEq] at e
    subst e
    exact ⟨_, rfl, h⟩
  | _, _, i + 1, _, .cons h r, e => by
    simp only [List.getElem?_cons_succ] at e ⊢
    exact Dvs.get i r e
theorem Dvs.append {K : PySem.W.Frag} {F : Hp} : ∀ {vs ws : List V} {ds es : List D}, Dvs K F vs ds → Dvs K F ws es → Dvs K F (vs ++ ws) (ds ++ es)
  | _, _, _, _, .nil, s => s
  | _, _, _, _, .cons h r, s => .cons h (Dvs.append r s)
theorem Dvs.take {K : PySem.W.Frag} {F : Hp} : ∀ {vs : List V} {ds : List D} (n : Nat), Dvs K F vs ds → Dvs K F (vs.take n) (ds.take n)
  | _, _, 0, _ => by simp only [List.take_zero]; exact .nil
  | _, _, n + 1, .nil => .nil
  | _, _, n + 1, .cons h r => by simp only [List.take_succ_cons]; exact .cons h (Dvs.take n r)
theorem Dvs.drop {K : PySem.W.Frag} {F : Hp} : ∀ {vs : List V} {ds : List D} (n : Nat), Dvs K F vs ds → Dvs K F (vs.drop n) (ds.drop n)
  | _, _, 0, r => r
  | _, _, n + 1, .nil => .nil
  | _, _, n + 1, .cons h r => by simp only [List.drop_succ_cons]; exact Dvs.drop n r
theorem Dvs.set {K : PySem.W.Frag} {F : Hp} {v : V} {d : D} (x : Dv K F v d) : ∀ {vs : List V} {ds : List D} (i : Nat), Dvs K F vs ds → Dvs K F (vs.set i v) (ds.set i d)
  | _, _, _, .nil => .nil
  | _, _, 0, .cons _ t => .cons x t
  | _, _, i + 1, .cons q t => .cons q (Dvs.set x i t)
theorem Dvs.eraseIdx {K : PySem.W.Frag} {F : Hp} : ∀ {vs : List V} {ds : List D} (i : Nat), Dvs K F vs ds → Dvs K F (vs.eraseIdx i) (ds.eraseIdx i)
  | _, _, _, .nil => .nil
  | _, _, 0, .cons _ t => t
  | _, _, i + 1, .cons q t => .cons q (Dvs.eraseIdx i t)
theorem Dvs.dropLast {K : PySem.W.Frag} {F : Hp} {vs : List V} {ds : List D} (r : Dvs K F vs ds) : Dvs K F vs.dropLast ds.dropLast := by
  rw [List.dropLast_eq_take, List.dropLast_eq_take, r.length]
  exact r.take _
theorem Dvs.repl {K : PySem.W.Frag} {F : Hp} {vs : List V} {ds : List D} (r : Dvs K F vs ds) : ∀ n : Nat, Dvs K F (List.replicate n vs).flatten (List.replicate n ds).flatten
  | 0 => .nil
  | n + 1 => by
    rw [List.replicate_succ, List.replicate_succ, List.flatten_cons, List.flatten_cons]
    exact r.append (Dvs.repl r n)
theorem Dvs.reverse {K : PySem.W.Frag} {F : Hp} : ∀ {vs : List V} {ds : List D}, Dvs K F vs ds → Dvs K F vs.reverse ds.reverse
  | _, _, .nil => .nil
  | _, _, .cons h r => by
    rw [List.reverse_cons, List.reverse_cons]
    exact (Dvs.reverse r).append (.cons h .nil)
mutual
/-- the kit's own relation, where no dict and no handle is within -/
theorem Dv.dp {K : PySem.W.Frag} {F : Hp} : ∀ (d : D) {v : V}, d.pure = true → Dv K F v d → Dp K F v d.py
  | _, _, _, .non => .non
  | _, _, _, .bl b => .bl b
  | _, _, _, .int i => .int i
  | _, _, _, .str x => .str x
  | .lst ds, _, p, .lst h z r => .lst (.of h) (Dvs.dps ds p r)
  | .tup ds, _, p, .tup h z r => .tup h (Dvs.dps ds p r)
  | .dct _, _, p, _ => by simp [D.pure] at p
  | .obj _, _, p, _ => by simp [D.pure] at p
theorem Dvs.dps {K : PySem.W.Frag} {F : Hp} : ∀ (ds : List D) {vs : List V}, D.pures ds = true → Dvs K F vs ds → DpAll K F vs (D.pys ds)
  | _, _, _, .nil => .nil
  | d :: ds, _, p, .cons h r => by
    have p' : d.pure = true ∧ D.pures ds = true := by
      simpa [D.pures] using p
    exact .cons (Dv.dp d p'.1 h) (Dvs.dps ds p'.2 r)
end
theorem Dvs.ints {K : PySem.W.Frag} {F : Hp} : ∀ (ds : List D) {vs : List V} {is : List Int}, Dvs K F vs ds → ints? ds = some is → vs = is.map V.int
  | _, _, is, .nil, h => by
    simp only [ints?, Option.some.injEq] at h
    subst h; rfl
  | d :: ds, _, is, .cons h r, e => by
    simp only [ints?] at e
    split at e
    · rename_i i js hi
      cases e
      have := Dvs.ints ds r hi
      subst this
      cases h
      rfl
    · cases e
theorem Dvs.bools {K : PySem.W.Frag} {F : Hp} : ∀ (ds : List D) {vs : List V} {is : List Bool}, Dvs K F vs ds → bools? ds = some is → vs = is.map V.bl
  | _, _, is, .nil, h => by
    simp only [bools?, Option.some.injEq] at h
    subst h; rfl
  | d :: ds, _, is, .cons h r, e => by
    simp only [bools?] at e
    split at e
    · rename_i i js hi
      cases e
      have := Dvs.bools ds r hi
      subst this
      cases h
      rfl
    · cases e

/-! ### the outer state -/
structure Wd where
  S : Type
  fp : Addr → Prop
  so : S → Hp → Prop
  alive : ∀ {s H x}, so s H → fp x → H x ≠ none
  stay : ∀ {s : S} {H H' : Hp}, so s H → (∀ x, fp x → H' x = H x) → so s H'
abbrev W0 : Wd where
  S := Unit
  fp := fun _ => False
  so := fun _ _ => True
  alive := fun _ h => h.elim
  stay := fun _ _ => trivial

/-- an owned thing: a list, a dict -/
def OwO (K : PySem.W.Frag) (F : Hp) (o : HO) (d : D) : Prop := (∃ vs ds, d = .lst ds ∧ o = .lst vs ∧ vs.length ≤ sizeLine ∧ Dvs K F vs ds) ∨ ∃ (ks : List L2.Key) (vs : List V) (ds : List D), d = .dct (ks.zip ds) ∧ o = .dK (ks.zip vs) ∧ ks.length = vs.length ∧ Dvs K F vs ds
theorem OwO.mono {K : PySem.W.Frag} {F F' : Hp} {o : HO} {d : D} (h : OwO K F o d) (e : Sub F F') : OwO K F' o d := by
  rcases h with ⟨vs, ds, rfl, rfl, z, r⟩ | ⟨ks, vs, ds, rfl, rfl, z, r⟩
  · exact .inl ⟨vs, ds, rfl, rfl, z, r.mono e⟩
  · exact .inr ⟨ks, vs, ds, rfl, rfl, z, r.mono e⟩
theorem OwO.dv {K : PySem.W.Frag} {F : Hp} {o : HO} {d : D} {a : Addr} (h : OwO K F o d) (h3 : F a = none) : Dv K (upd F a o) (.ref a) d := by
  have sub : Sub F (upd F a o) := Sub.upd h3
  rcases h with ⟨vs, ds, rfl, rfl, z, r⟩ | ⟨ks, vs, ds, rfl, rfl, z, r⟩
  · exact .lst upd_same z (r.mono sub)
  · exact .dct upd_same (r.mono sub) z
def OwR (K : PySem.W.Frag) (F H : Hp) (a : Addr) (d : D) : Prop := ∃ o, H a = some o ∧ OwO K F o d
theorem OwR.mono {K : PySem.W.Frag} {F F' H H' : Hp} {a : Addr} {d : D} (h : OwR K F H a d) (e : Sub F F') (k : H' a = H a) : OwR K F' H' a d := by
  obtain ⟨o, h1, r⟩ := h
  exact ⟨o, by rw [k]; exact h1, r.mono e⟩
theorem OwR.l {K : PySem.W.Frag} {F H : Hp} {a : Addr} {ds : List D} (h : OwR K F H a (.lst ds)) : ∃ vs ds', D.lst ds = .lst ds' ∧ H a = some (.lst vs) ∧ vs.length ≤ sizeLine ∧ Dvs K F vs ds' := by
  obtain ⟨o, h1, ⟨vs, ds', e, rfl, z, r⟩ | ⟨ks, vs, ds', e, _⟩⟩ := h
  · exact ⟨vs, ds', e, h1, z, r⟩
  · cases e
theorem OwR.d {K : PySem.W.Frag} {F H : Hp} {a : Addr} {kvs : List (Key × D)} (h : OwR K F H a (.dct kvs)) : ∃ (ks : List L2.Key) (vs : List V) (ds : List D), kvs = ks.zip ds ∧ H a = some (.dK (ks.zip vs)) ∧ ks.length = vs.length ∧ Dvs K F vs ds := by
  obtain ⟨o, h1, ⟨vs, ds', e, _⟩ | ⟨ks, vs, ds, e, rfl, z, r⟩⟩ := h
  · cases e
  · cases e
    exact ⟨ks, vs, ds, rfl, h1, z, r⟩
structure Slots (K : PySem.W.Frag) (W : Wd) (B F H : Hp) (σ : L2.St) (ρ : Env) : Prop where
  sh : ∀ (i : Nat) (d : D), ρ[i]? = some (some (Sl.sh d)) → ∃ v, σ[i]? = some (some v) ∧ Dv K F v d
  ow : ∀ (i : Nat) (d : D), ρ[i]? = some (some (Sl.ow d)) → ∃ a, σ[i]? = some (some (V.ref a)) ∧ B a = none ∧ F a = none ∧ ¬ W.fp a ∧ OwR K F H a d
  dj : ∀ (i j : Nat) (d e : D) (a : Addr), ρ[i]? = some (some (Sl.ow d)) → ρ[j]? = some (some (Sl.ow e)) → σ[i]? = some (some (V.ref a)) → σ[j]? = some (some (V.ref a)) → i = j
/-- B: what must stand; F0: what was shared at the entry; F: what is shared now -/
structure Rel (K : PySem.W.Frag) (W : Wd) (B F0 : Hp) (σ : L2.St) (H F : Hp) (ρ : Env) (s : W.S) : Prop where
  bh : Sub B H
  fh : Sub F H
  ff : Sub F0 F
  fb : ∀ x, F x ≠ none → F0 x ≠ none ∨ B x = none
  of : ∀ x, W.fp x → F x = none
  ob : ∀ x, W.fp x → B x = none
  st : W.so s H
  len : σ.length = ρ.length
  sl : Slots K W B F H σ ρ

section
variable {K : PySem.W.Frag} {W : Wd} {B F0 H H' F F' : Hp} {σ σ' : L2.St} {ρ ρ' : Env} {s s' : W.S} {p : Addr} {o : HO} {d : D} {v : V} {i : Nat}

/-- slots under a grown heap -/
theorem Slots.grow {B' : Hp} (sl : Slots K W B F H σ ρ) (f : Sub F F') (k : ∀ (i : Nat) (d : D) (a : Addr), ρ[i]? = some (some (Sl.ow d)) → σ[i]? = some (some (V.ref a)) → B a = none → F a = none → H a ≠ none → B' a = none ∧ F' a = none ∧ H' a = H a) : Slots K W B' F' H' σ ρ := by
  refine ⟨fun i d e => ?_, fun i d e => ?_, sl.dj⟩
  · obtain ⟨v, h1, h2⟩ := sl.sh i d e
    exact ⟨v, h1, h2.mono f⟩
  · obtain ⟨a, h1, h2, h3, h4, h5⟩ := sl.ow i d e
    have al : H a ≠ none := by
      obtain ⟨o, q, _⟩ := h5
      rw [q]; exact fun z => nomatch z
    obtain ⟨k1, k2, k3⟩ := k i d a e h1 h2 h3 al
    exact ⟨a, h1, k1, k2, h4, h5.mono f k3⟩
/-- a new shared object -/
theorem Rel.new (R : Rel K W B F0 σ H F ρ s) (hp : H p = none) : Rel K W B F0 σ (upd H p o) (upd F p o) ρ s := by
  have np : ∀ x, W.fp x → x ≠ p := fun x hx e => W.alive R.st hx (e ▸ hp)
  refine ⟨R.bh.updR (R.bh.none hp), R.fh.upd2, R.ff.updR (R.ff.none (R.fh.none hp)), fun x hx => ?_, fun x hx => ?_, R.ob, W.stay R.st fun x hx => upd_ne (np x hx), R.len, ?_⟩
  · by_cases e : x = p
    · subst e; exact .inr (R.bh.none hp)
    · rw [upd_ne e] at hx; exact R.fb x hx
  · rw [upd_ne (np x hx)]; exact R.of x hx
  · refine R.sl.grow (Sub.upd (R.fh.none hp)) fun i d a _ _ hB hF hH => ?_
    have ne : a ≠ p := fun e => hH (e ▸ hp)
    exact ⟨hB, by rw [upd_ne ne]; exact hF, upd_ne ne⟩
/-- a new object that is held by nothing yet: it must stand (it is in B) -/
theorem Rel.keep (R : Rel K W B F0 σ H F ρ s) (hp : H p = none) : Rel K W (upd B p o) F0 σ (upd H p o) F ρ s := by
  have np : ∀ x, W.fp x → x ≠ p := fun x hx e => W.alive R.st hx (e ▸ hp)
  refine ⟨R.bh.upd2, R.fh.updR (R.fh.none hp), R.ff, fun x hx => ?_, R.of, fun x hx => ?_, W.stay R.st fun x hx => upd_ne (np x hx), R.len, ?_⟩
  · by_cases e : x = p
    · subst e; exact absurd (R.fh.none hp) hx
    · rw [upd_ne e]; exact R.fb x hx
  · rw [upd_ne (np x hx)]; exact R.ob x hx
  · refine R.sl.grow (Sub.refl F) fun i d a _ _ hB hF hH => ?_
    have ne : a ≠ p := fun e => hH (e ▸ hp)
    exact ⟨by rw [upd_ne ne]; exact hB, hF, upd_ne ne⟩
/-- it is shared -/
theorem Rel.share (R : Rel K W (upd B p o) F0 σ H F ρ s) (hB : B p = none) : Rel K W B F0 σ H (upd F p o) ρ s := by
  have hH : H p = some o := R.bh p o upd_same
  have np : ∀ x, W.fp x → x ≠ p := fun x hx e => by
    have := R.ob x hx
    rw [e, upd_same] at this; cases this
  refine ⟨fun x u e => R.bh x u ?_, fun x u e => ?_, fun x u e => ?_, fun x hx => ?_, fun x hx => ?_, fun x hx => ?_, R.st, R.len, ?_⟩
  · rw [upd_ne (fun z => by rw [z, hB] at e; cases e)]; exact e
  · by_cases z : x = p
    · subst z; rw [upd_same] at e; cases e; exact hH
    · rw [upd_ne z] at e; exact R.fh x u e
  · have h1 := R.ff x u e
    by_cases z : x = p
    · subst z
      have h2 := R.fh x u h1
      rw [hH] at h2; cases h2
      exact upd_same
    · rw [upd_ne z]; exact h1
  · by_cases z : x = p
    · subst z; exact .inr hB
    · rw [upd_ne z] at hx
      rcases R.fb x hx with q | q
      · exact .inl q
      · rw [upd_ne z] at q; exact .inr q
  · rw [upd_ne (np x hx)]; exact R.of x hx
  · have := R.ob x hx
    rw [upd_ne (np x hx)] at this; exact this
  · refine R.sl.grow (fun x u e => ?_) fun i d a _ _ hBa hF hHa => ?_
    · by_cases z : x = p
      · subst z
        have h2 := R.fh x u e
        rw [hH] at h2; cases h2
        exact upd_same
      · rw [upd_ne z]; exact e
    · have ne : a ≠ p := fun e => by rw [e, upd_same] at hBa; cases hBa
      rw [upd_ne ne] at hBa
      exact ⟨hBa, by rw [upd_ne ne]; exact hF, rfl⟩
theorem Rel.sharesub (R : Rel K W (upd B p o) F0 σ H F ρ s) : Sub F (upd F p o) := fun x u e => by
  by_cases z : x = p
  · subst z
    have h2 := R.fh x u e
    rw [R.bh x o upd_same] at h2; cases h2
    exact upd_same
  · rw [upd_ne z]; exact e
/-- forgetting all slots -/
theorem Rel.nil (R : Rel K W B F0 σ H F ρ s) : Rel K W B F0 [] H F [] s :=
  ⟨R.bh, R.fh, R.ff, R.fb, R.of, R.ob, R.st, rfl, fun i d e => by simp at e, fun i d e => by simp at e, fun i j d e a h => by simp at h⟩
theorem set_get {α : Type} {l : List α} {i j : Nat} {x y : α} (h : (l.set i x)[j]? = some y) : (i = j ∧ y = x ∧ i < l.length) ∨ (i ≠ j ∧ l[j]? = some y) := by
  by_cases e : i = j
  · subst e
    rw [List.getElem?_set_self'] at h
    cases q : l[i]? with
    | none => rw [q] at h; cases h
    | some z =>
      rw [q] at h
      cases h
      exact .inl ⟨rfl, rfl, (List.getElem?_eq_some_iff.mp q).1⟩
  · rw [List.getElem?_set_ne e] at h
    exact .inr ⟨e, h⟩
theorem set_get_ne {α : Type} {l : List α} {i j : Nat} {x : α} (h : i ≠ j) : (l.set i x)[j]? = l[j]? := List.getElem?_set_ne h
theorem set_get_eq {α : Type} {l : List α} {i : Nat} {x : α} (h : i < l.length) : (l.set i x)[i]? = some x := List.getElem?_set_self h
/-- a shared value is stored -/
theorem Rel.setSh (R : Rel K W B F0 σ H F ρ s) (hv : Dv K F v d) : Rel K W B F0 (σ.set i (some v)) H F (ρ.set i (some (Sl.sh d))) s := by
  refine ⟨R.bh, R.fh, R.ff, R.fb, R.of, R.ob, R.st, by rw [List.length_set, List.length_set]; exact R.len, fun j e h => ?_, fun j e h => ?_, fun j k e f a h h' g g' => ?_⟩
  · rcases set_get h with ⟨rfl, q, hl⟩ | ⟨ne, q⟩
    · cases q
      exact ⟨v, set_get_eq (by rw [R.len]; exact hl), hv⟩
    · rw [set_get_ne ne]; exact R.sl.sh j e q
  · rcases set_get h with ⟨rfl, q, _⟩ | ⟨ne, q⟩
    · cases q
    · rw [set_get_ne ne]; exact R.sl.ow j e q
  · rcases set_get h with ⟨rfl, q, _⟩ | ⟨ne, q⟩
    · cases q
    · rcases set_get h' with ⟨rfl, q', _⟩ | ⟨ne', q'⟩
      · cases q'
      · rw [set_get_ne ne] at g
        rw [set_get_ne ne'] at g'
        exact R.sl.dj j k e f a q q' g g'
/-- a new list is stored, owned -/
theorem Rel.setOwO (R : Rel K W (upd B p o) F0 σ H F ρ s) (hB : B p = none) (hF : F p = none) (hv : OwO K F o d) :
    Rel K W B F0 (σ.set i (some (.ref p))) H F (ρ.set i (some (Sl.ow d))) s := by
  have hH : H p = some o := R.bh p _ upd_same
  have np : ∀ x, W.fp x → x ≠ p := fun x hx e => by
    have := R.ob x hx
    rw [e, upd_same] at this; cases this
  have sub : Sub B (upd B p o) := Sub.upd hB
  have nes : ∀ (j : Nat) (e : D) (a : Addr), ρ[j]? = some (some (Sl.ow e)) → σ[j]? = some (some (V.ref a)) → a ≠ p := fun j e a h g z => by
    obtain ⟨a', h1, h2, _⟩ := R.sl.ow j e h
    rw [g] at h1
    cases h1
    rw [z, upd_same] at h2; cases h2
  refine ⟨fun x u e => R.bh x u (sub x u e), R.fh, R.ff, fun x hx => ?_, R.of, fun x hx => ?_, R.st, by rw [List.length_set, List.length_set]; exact R.len, fun j e h => ?_, fun j e h => ?_, fun j k e f a h h' g g' => ?_⟩
  · rcases R.fb x hx with q | q
    · exact .inl q
    · exact .inr (sub.none q)
  · exact sub.none (R.ob x hx)
  · rcases set_get h with ⟨rfl, q, _⟩ | ⟨ne, q⟩
    · cases q
    · rw [set_get_ne ne]; exact R.sl.sh j e q
  · rcases set_get h with ⟨rfl, q, hl⟩ | ⟨ne, q⟩
    · cases q
      exact ⟨p, set_get_eq (by rw [R.len]; exact hl), hB, hF, fun z => np p z rfl, o, hH, hv⟩
    · rw [set_get_ne ne]
      obtain ⟨a, h1, h2, h3⟩ := R.sl.ow j e q
      exact ⟨a, h1, sub.none h2, h3⟩
  · rcases set_get h with ⟨rfl, q, hl⟩ | ⟨ne, q⟩
    · rcases set_get h' with ⟨rfl, q', _⟩ | ⟨ne', q'⟩
      · rfl
      · rw [set_get_eq (by rw [R.len]; exact hl)] at g
        cases g
        rw [set_get_ne ne'] at g'
        exact absurd rfl (nes k f _ q' g')
    · rcases set_get h' with ⟨rfl, q', hl⟩ | ⟨ne', q'⟩
      · rw [set_get_eq (by rw [R.len]; exact hl)] at g'
        cases g'
        rw [set_get_ne ne] at g
        exact absurd rfl (nes j e _ q g)
      · rw [set_get_ne ne] at g
        rw [set_get_ne ne'] at g'
        exact R.sl.dj j k e f a q q' g g'
theorem Rel.setOw {vs : List V} {ds : List D} (R : Rel K W (upd B p (.lst vs)) F0 σ H F ρ s) (hB : B p = none) (hF : F p = none) (hz : vs.length ≤ sizeLine) (hv : Dvs K F vs ds) :
    Rel K W B F0 (σ.set i (some (.ref p))) H F (ρ.set i (some (Sl.ow (.lst ds)))) s := R.setOwO hB hF (.inl ⟨vs, ds, rfl, rfl, hz, hv⟩)
/-- an owned slot is shared from now on -/
theorem Rel.freeze (R : Rel K W B F0 σ H F ρ s) (h : ρ[i]? = some (some (Sl.ow d))) :
    ∃ a o, σ[i]? = some (some (V.ref a)) ∧ Sub F (upd F a o) ∧ Dv K (upd F a o) (.ref a) d ∧ Rel K W B F0 σ H (upd F a o) (ρ.set i (some (Sl.sh d))) s := by
  obtain ⟨a, h1, h2, h3, h4, o, h5, h6⟩ := R.sl.ow i d h
  have sub : Sub F (upd F a o) := Sub.upd h3
  have hd : Dv K (upd F a o) (.ref a) d := h6.dv h3
  refine ⟨a, o, h1, sub, hd, R.bh, fun x u e => ?_, R.ff.trans sub, fun x hx => ?_, fun x hx => ?_, R.ob, R.st, by rw [List.length_set]; exact R.len, fun j e g => ?_, fun j e g => ?_, fun j k e f b g g' => ?_⟩
  · by_cases z : x = a
    · subst z; rw [upd_same] at e; cases e; exact h5
    · rw [upd_ne z] at e; exact R.fh x u e
  · by_cases z : x = a
    · subst z; exact .inr h2
    · rw [upd_ne z] at hx; exact R.fb x hx
  · rw [upd_ne (show x ≠ a from fun z => h4 (by rw [← z]; exact hx))]; exact R.of x hx
  · rcases set_get g with ⟨rfl, q, _⟩ | ⟨ne, q⟩
    · cases q
      exact ⟨_, h1, hd⟩
    · obtain ⟨v, q1, q2⟩ := R.sl.sh j e q
      exact ⟨v, q1, q2.mono sub⟩
  · rcases set_get g with ⟨rfl, q, _⟩ | ⟨ne, q⟩
    · cases q
    · obtain ⟨b, q1, q2, q3, q4, q5⟩ := R.sl.ow j e q
      have nb : b ≠ a := fun z => ne (R.sl.dj _ _ _ _ a h q h1 (z ▸ q1))
      exact ⟨b, q1, q2, by rw [upd_ne nb]; exact q3, q4, q5.mono sub rfl⟩
  · rcases set_get g with ⟨rfl, q, _⟩ | ⟨ne, q⟩
    · cases q
    · rcases set_get g' with ⟨rfl, q', _⟩ | ⟨ne', q'⟩
      · cases q'
      · exact R.sl.dj j k e f b q q'
/-- an owned list is changed -/
theorem Rel.writeO {a : Addr} {d' : D} (R : Rel K W B F0 σ H F ρ s) (h : ρ[i]? = some (some (Sl.ow d))) (hs : σ[i]? = some (some (V.ref a))) (hv : OwO K F o d') :
    Rel K W B F0 σ (upd H a o) F (ρ.set i (some (Sl.ow d'))) s := by
  obtain ⟨a', h1, h2, h3, h4, h5⟩ := R.sl.ow i d h
  rw [hs] at h1; cases h1
  have hl : i < ρ.length := (List.getElem?_eq_some_iff.mp h).1
  refine ⟨R.bh.updR h2, R.fh.updR h3, R.ff, R.fb, R.of, R.ob, W.stay R.st fun x hx => upd_ne (fun z => h4 (z ▸ hx)), by rw [List.length_set]; exact R.len, fun j e g => ?_, fun j e g => ?_, fun j k e f b g g' q1 q2 => ?_⟩
  · rcases set_get g with ⟨rfl, q, _⟩ | ⟨ne, q⟩
    · cases q
    · exact R.sl.sh j e q
  · rcases set_get g with ⟨rfl, q, _⟩ | ⟨ne, q⟩
    · cases q
      exact ⟨a, hs, h2, h3, h4, o, upd_same, hv⟩
    · obtain ⟨b, q1, q2, q3, q4, q5⟩ := R.sl.ow j e q
      have nb : b ≠ a := fun z => ne (R.sl.dj _ _ _ _ a h q hs (z ▸ q1))
      exact ⟨b, q1, q2, q3, q4, q5.mono (Sub.refl F) (upd_ne nb)⟩
  · have o1 : ∃ e', ρ[j]? = some (some (Sl.ow e')) := by
      rcases set_get g with ⟨rfl, _, _⟩ | ⟨_, q⟩
      · exact ⟨_, h⟩
      · exact ⟨_, q⟩
    have o2 : ∃ e', ρ[k]? = some (some (Sl.ow e')) := by
      rcases set_get g' with ⟨rfl, _, _⟩ | ⟨_, q⟩
      · exact ⟨_, h⟩
      · exact ⟨_, q⟩
    obtain ⟨e1, g1⟩ := o1
    obtain ⟨e2, g2⟩ := o2
    exact R.sl.dj j k e1 e2 b g1 g2 q1 q2
theorem Rel.write {a : Addr} {vs : List V} {ds : List D} (R : Rel K W B F0 σ H F ρ s) (h : ρ[i]? = some (some (Sl.ow d))) (hs : σ[i]? = some (some (V.ref a))) (hz : vs.length ≤ sizeLine) (hv : Dvs K F vs ds) :
    Rel K W B F0 σ (upd H a (.lst vs)) F (ρ.set i (some (Sl.ow (.lst ds)))) s := R.writeO h hs (.inl ⟨vs, ds, rfl, rfl, hz, hv⟩)
/-- a slot is forgotten -/
theorem Rel.kill (R : Rel K W B F0 σ H F ρ s) : Rel K W B F0 σ H F (ρ.set i none) s := by
  refine ⟨R.bh, R.fh, R.ff, R.fb, R.of, R.ob, R.st, by rw [List.length_set]; exact R.len, fun j e g => ?_, fun j e g => ?_, fun j k e f b g g' => ?_⟩
  · rcases set_get g with ⟨rfl, q, _⟩ | ⟨ne, q⟩
    · cases q
    · exact R.sl.sh j e q
  · rcases set_get g with ⟨rfl, q, _⟩ | ⟨ne, q⟩
    · cases q
    · exact R.sl.ow j e q
  · rcases set_get g with ⟨rfl, q, _⟩ | ⟨ne, q⟩
    · cases q
    · rcases set_get g' with ⟨rfl, q', _⟩ | ⟨ne', q'⟩
      · cases q'
      · exact R.sl.dj j k e f b q q'
theorem Rel.kills : ∀ (l : List Nat) {ρ : Env}, Rel K W B F0 σ H F ρ s → Rel K W B F0 σ H F (wipeE l ρ) s
  | [], _, R => R
  | i :: l, _, R => Rel.kills l R.kill
end

/-! ### what a reading means -/
section
variable (K : PySem.W.Frag) (W : Wd)
def SemE (t : TE) (f : E W.S) : Prop := ∀ B F0 σ H F ρ s, Rel K W B F0 σ H F ρ s → ∀ d ρ' s', f ρ s = some (d, ρ', s') → ∀ Q : VK,
  (∀ v H' F', Rel K W B F0 σ H' F' ρ' s' → Sub F F' → Dv K F' v d → Q v H') → t σ H Q
/-- a new list (nothing else holds it) -/
def SemN (t : TE) (f : E W.S) : Prop := ∀ B F0 σ H F ρ s, Rel K W B F0 σ H F ρ s → ∀ d ρ' s', f ρ s = some (d, ρ', s') → ∀ Q : VK,
  (∀ p vs ds H' F', d = .lst ds → Rel K W (upd B p (.lst vs)) F0 σ H' F' ρ' s' → B p = none → F' p = none → Sub F F' → vs.length ≤ sizeLine → Dvs K F' vs ds → Q (.ref p) H') → t σ H Q
/-- a new list or dict (nothing else holds it) -/
def SemND (t : TE) (f : E W.S) : Prop := ∀ B F0 σ H F ρ s, Rel K W B F0 σ H F ρ s → ∀ d ρ' s', f ρ s = some (d, ρ', s') → ∀ Q : VK,
  (∀ p o H' F', Rel K W (upd B p o) F0 σ H' F' ρ' s' → B p = none → F' p = none → Sub F F' → OwO K F' o d → Q (.ref p) H') → t σ H Q
def SemT (t : TT) (f : T W.S) : Prop := ∀ B F0 σ H F ρ s, Rel K W B F0 σ H F ρ s → ∀ b ρ' s', f ρ s = some (b, ρ', s') → ∀ Q : Bool → Hp → Prop,
  (∀ H' F', Rel K W B F0 σ H' F' ρ' s' → Sub F F' → Q b H') → t σ H Q
def SemA (t : TA) (f : As W.S) : Prop := ∀ B F0 σ H F ρ s, Rel K W B F0 σ H F ρ s → ∀ ds ρ' s', f ρ s = some (ds, ρ', s') → ∀ Q : List V → Hp → Prop,
  (∀ vs H' F', Rel K W B F0 σ H' F' ρ' s' → Sub F F' → Dvs K F' vs ds → Q vs H') → t σ H Q
/-- a part of a slice -/
def SemO (t : TO) (f : Env → W.S → Option (Option Int × Env × W.S)) : Prop := ∀ B F0 σ H F ρ s, Rel K W B F0 σ H F ρ s → ∀ i ρ' s', f ρ s = some (i, ρ', s') → ∀ Q : Option Int → Hp → Prop,
  (∀ H' F', Rel K W B F0 σ H' F' ρ' s' → Sub F F' → Q i H') → t σ H Q
/-- an operation on values; its outcome is shared, or new -/
def SemR2 (r : R2) (op : D → D → Option D) : Prop := ∀ B F0 σ H F ρ s, Rel K W B F0 σ H F ρ s → ∀ x y dx dy d, Dv K F x dx → Dv K F y dy → op dx dy = some d → ∀ Q : VK,
  (∀ v H' F', Rel K W B F0 σ H' F' ρ s → Sub F F' → Dv K F' v d → Q v H') → r x y H Q
def SemR1 (r : V → Hp → VK → Prop) (op : D → Option D) : Prop := ∀ B F0 σ H F ρ s, Rel K W B F0 σ H F ρ s → ∀ x dx d, Dv K F x dx → op dx = some d → ∀ Q : VK,
  (∀ v H' F', Rel K W B F0 σ H' F' ρ s → Sub F F' → Dv K F' v d → Q v H') → r x H Q
/-- a built-in called on values -/
def SemB (r : List V → Hp → VK → Prop) (op : List D → Option D) : Prop := ∀ B F0 σ H F ρ s, Rel K W B F0 σ H F ρ s → ∀ xs ds d, Dvs K F xs ds → op ds = some d → ∀ Q : VK,
  (∀ v H' F', Rel K W B F0 σ H' F' ρ s → Sub F F' → Dv K F' v d → Q v H') → r xs H Q
def SemBN (r : List V → Hp → VK → Prop) (op : List D → Option D) : Prop := ∀ B F0 σ H F ρ s, Rel K W B F0 σ H F ρ s → ∀ xs ds d, Dvs K F xs ds → op ds = some d → ∀ Q : VK,
  (∀ p vs ds H' F', d = .lst ds → Rel K W (upd B p (.lst vs)) F0 σ H' F' ρ s → B p = none → F' p = none → Sub F F' → vs.length ≤ sizeLine → Dvs K F' vs ds → Q (.ref p) H') → r xs H Q
end
section
variable {K : PySem.W.Frag} {W : Wd} {ta tb tc te : TE} {fa fb fc : E W.S} {t u : TT} {ft fu : T W.S}
theorem SemN.d (h : SemN K W ta fa) : SemND K W ta fa := fun B F0 σ H F ρ s R d ρ' s' e Q q => by
  refine h B F0 σ H F ρ s R d ρ' s' e Q fun p vs ds H' F' hd R' hB hF sub hz hv => ?_
  subst hd
  exact q p _ _ _ R' hB hF sub (.inl ⟨vs, ds, rfl, rfl, hz, hv⟩)
theorem SemND.e (h : SemND K W ta fa) : SemE K W ta fa := fun B F0 σ H F ρ s R d ρ' s' e Q q => by
  refine h B F0 σ H F ρ s R d ρ' s' e Q fun p o H' F' R' hB hF sub hv => ?_
  exact q _ _ _ (R'.share hB) (sub.trans R'.sharesub) (hv.dv hF)
theorem SemN.e (h : SemN K W ta fa) : SemE K W ta fa := fun B F0 σ H F ρ s R d ρ' s' e Q q => by
  refine h B F0 σ H F ρ s R d ρ' s' e Q fun p vs ds H' F' hd R' hB hF sub hz hv => ?_
  subst hd
  exact q _ _ _ (R'.share hB) (sub.trans R'.sharesub) (.lst upd_same hz (hv.mono R'.sharesub))
/-- a new list that a rule lays -/
theorem lay_new {B F0 : Hp} {σ : L2.St} {H F : Hp} {ρ : Env} {s : W.S} {vs : List V} {ds : List D} {Q : VK} (R : Rel K W B F0 σ H F ρ s) (hz : vs.length ≤ sizeLine) (hv : Dvs K F vs ds)
    (q : ∀ p vs' ds' H' F', D.lst ds = D.lst ds' → Rel K W (upd B p (.lst vs')) F0 σ H' F' ρ s → B p = none → F' p = none → Sub F F' → vs'.length ≤ sizeLine → Dvs K F' vs' ds' → Q (.ref p) H') : ∀ p, H p = none → Q (.ref p) (upd H p (.lst vs)) :=
  fun p hp => q p vs ds _ F rfl (R.keep hp) (R.bh.none hp) (R.fh.none hp) (Sub.refl F) hz hv
theorem lay_tup {B F0 : Hp} {σ : L2.St} {H F : Hp} {ρ : Env} {s : W.S} {vs : List V} {ds : List D} {Q : VK} (R : Rel K W B F0 σ H F ρ s) (hz : vs.length ≤ sizeLine) (hv : Dvs K F vs ds)
    (q : ∀ v H' F', Rel K W B F0 σ H' F' ρ s → Sub F F' → Dv K F' v (.tup ds) → Q v H') : ∀ p, H p = none → Q (.ref p) (upd H p (.tup vs)) := fun p hp => by
  have sub : Sub F (upd F p (.tup vs)) := Sub.upd (R.fh.none hp)
  exact q _ _ _ (R.new hp) sub (.tup (.of upd_same) hz (hv.mono sub))
theorem lay_lst {B F0 : Hp} {σ : L2.St} {H F : Hp} {ρ : Env} {s : W.S} {vs : List V} {ds : List D} {Q : VK} (R : Rel K W B F0 σ H F ρ s) (hz : vs.length ≤ sizeLine) (hv : Dvs K F vs ds)
    (q : ∀ v H' F', Rel K W B F0 σ H' F' ρ s → Sub F F' → Dv K F' v (.lst ds) → Q v H') : ∀ p, H p = none → Q (.ref p) (upd H p (.lst vs)) := fun p hp => by
  have sub : Sub F (upd F p (.lst vs)) := Sub.upd (R.fh.none hp)
  exact q _ _ _ (R.new hp) sub (.lst upd_same hz (hv.mono sub))
theorem se_c {v : V} {d : D} (h : ∀ F, Dv K F v d) : SemE K W (tC v) (eC d) := fun B F0 σ H F ρ s R d' ρ' s' e Q q => by
  cases e
  exact q v H F R (Sub.refl F) (h F)
theorem se_int {i : Int} : SemE K W (tC (.int i)) (eC (.int i)) := se_c fun _ => .int i
theorem se_bl {i : Bool} : SemE K W (tC (.bl i)) (eC (.bl i)) := se_c fun _ => .bl i
theorem se_non : SemE K W (tC .non) (eC .non) := se_c fun _ => .non
theorem se_str {i : Str} : SemE K W (tC (.str i)) (eC (.str i)) := se_c fun _ => .str i
theorem se_v {i : Nat} : SemE K W (tVar i) (eV i) := fun B F0 σ H F ρ s R d ρ' s' e Q q => by
  unfold eV at e
  split at e
  · rename_i d' h
    cases e
    obtain ⟨v, h1, h2⟩ := R.sl.sh i _ h
    exact ⟨v, h1, q v H F R (Sub.refl F) h2⟩
  · rename_i d' h
    cases e
    obtain ⟨a, o, h1, sub, hd, R'⟩ := R.freeze h
    exact ⟨_, h1, q _ H _ R' sub hd⟩
  · cases e
theorem se_2 {r : R2} {op : D → D → Option D} (hr : SemR2 K W r op) (ha : SemE K W ta fa) (hb : SemE K W tb fb) : SemE K W (tOp r ta tb) (e2 op fa fb) := fun B F0 σ H F ρ s R d ρ' s' e Q q => by
  unfold e2 at e
  split at e
  · rename_i x ρ1 s1 h1
    split at e
    · rename_i y ρ2 s2 h2
      split at e
      · rename_i z h3
        cases e
        refine ha B F0 σ H F ρ s R x _ _ h1 _ fun v H1 F1 R1 sub1 d1 => ?_
        refine hb B F0 σ H1 F1 _ _ R1 y _ _ h2 _ fun w H2 F2 R2 sub2 d2 => ?_
        exact hr B F0 σ H2 F2 _ _ R2 v w x y d (d1.mono sub2) d2 h3 Q fun v' H' F' R' sub' d' => q v' H' F' R' (sub1.trans (sub2.trans sub')) d'
      · cases e
    · cases e
  · cases e
theorem se_1 {r : V → Hp → VK → Prop} {op : D → Option D} (hr : SemR1 K W r op) (ha : SemE K W ta fa) : SemE K W (tUn r ta) (e1 op fa) := fun B F0 σ H F ρ s R d ρ' s' e Q q => by
  unfold e1 at e
  split at e
  · rename_i x ρ1 s1 h1
    split at e
    · rename_i z h3
      cases e
      refine ha B F0 σ H F ρ s R x _ _ h1 _ fun v H1 F1 R1 sub1 d1 => ?_
      exact hr B F0 σ H1 F1 _ _ R1 v x d d1 h3 Q fun v' H' F' R' sub' d' => q v' H' F' R' (sub1.trans sub') d'
    · cases e
  · cases e
theorem st_e (h : SemE K W ta fa) : SemT K W (tTest ta) (tE fa) := fun B F0 σ H F ρ s R b ρ' s' e Q q => by
  unfold tE at e
  split at e
  · rename_i c ρ1 s1 h1
    cases e
    refine h B F0 σ H F ρ s R _ _ _ h1 _ fun v H1 F1 R1 sub1 d1 => ?_
    cases d1
    exact ⟨b, rfl, q H1 F1 R1 sub1⟩
  · cases e
theorem st_eB (h : SemE K W ta fa) : SemT K W (tB ta) (tE fa) := st_e h
theorem st_yes : SemT K W L2.tYes Fw.tYes := fun B F0 σ H F ρ s R b ρ' s' e Q q => by
  cases e
  exact q H F R (Sub.refl F)
theorem st_and (ha : SemT K W t ft) (hb : SemT K W u fu) : SemT K W (L2.tAnd t u) (Fw.tAnd ft fu) := fun B F0 σ H F ρ s R b ρ' s' e Q q => by
  unfold Fw.tAnd at e
  split at e
  · rename_i ρ1 s1 h1
    refine ha B F0 σ H F ρ s R _ _ _ h1 _ fun H1 F1 R1 sub1 => ?_
    exact hb B F0 σ H1 F1 _ _ R1 _ _ _ e Q fun H2 F2 R2 sub2 => q H2 F2 R2 (sub1.trans sub2)
  · rename_i ρ1 s1 h1
    cases e
    exact ha B F0 σ H F ρ s R _ _ _ h1 _ fun H1 F1 R1 sub1 => q H1 F1 R1 sub1
  · cases e
theorem st_or (ha : SemT K W t ft) (hb : SemT K W u fu) : SemT K W (L2.tOr t u) (Fw.tOr ft fu) := fun B F0 σ H F ρ s R b ρ' s' e Q q => by
  unfold Fw.tOr at e
  split at e
  · rename_i ρ1 s1 h1
    cases e
    exact ha B F0 σ H F ρ s R _ _ _ h1 _ fun H1 F1 R1 sub1 => q H1 F1 R1 sub1
  · rename_i ρ1 s1 h1
    refine ha B F0 σ H F ρ s R _ _ _ h1 _ fun H1 F1 R1 sub1 => ?_
    exact hb B F0 σ H1 F1 _ _ R1 _ _ _ e Q fun H2 F2 R2 sub2 => q H2 F2 R2 (sub1.trans sub2)
  · cases e
theorem st_not (ha : SemT K W t ft) : SemT K W (L2.tNot t) (Fw.tNot ft) := fun B F0 σ H F ρ s R b ρ' s' e Q q => by
  unfold Fw.tNot at e
  split at e
  · rename_i c ρ1 s1 h1
    cases e
    exact ha B F0 σ H F ρ s R _ _ _ h1 _ fun H1 F1 R1 sub1 => q H1 F1 R1 sub1
  · cases e
theorem se_and (ha : SemE K W ta fa) (hb : SemE K W tb fb) : SemE K W (tAndV ta tb) (eAnd fa fb) := fun B F0 σ H F ρ s R d ρ' s' e Q q => by
  unfold eAnd at e
  split at e
  · rename_i ρ1 s1 h1
    refine ha B F0 σ H F ρ s R _ _ _ h1 _ fun v H1 F1 R1 sub1 d1 => ?_
    cases d1
    exact ⟨true, rfl, hb B F0 σ H1 F1 _ _ R1 _ _ _ e Q fun w H2 F2 R2 sub2 => q w H2 F2 R2 (sub1.trans sub2)⟩
  · rename_i ρ1 s1 h1
    cases e
    refine ha B F0 σ H F ρ s R _ _ _ h1 _ fun v H1 F1 R1 sub1 d1 => ?_
    cases d1
    exact ⟨false, rfl, q _ H1 F1 R1 sub1 (.bl false)⟩
  · cases e
theorem se_or (ha : SemE K W ta fa) (hb : SemE K W tb fb) : SemE K W (tOrV ta tb) (eOr fa fb) := fun B F0 σ H F ρ s R d ρ' s' e Q q => by
  unfold eOr at e
  split at e
  · rename_i ρ1 s1 h1
    cases e
    refine ha B F0 σ H F ρ s R _ _ _ h1 _ fun v H1 F1 R1 sub1 d1 => ?_
    cases d1
    exact ⟨true, rfl, q _ H1 F1 R1 sub1 (.bl true)⟩
  · rename_i ρ1 s1 h1
    refine ha B F0 σ H F ρ s R _ _ _ h1 _ fun v H1 F1 R1 sub1 d1 => ?_
    cases d1
    exact ⟨false, rfl, hb B F0 σ H1 F1 _ _ R1 _ _ _ e Q fun w H2 F2 R2 sub2 => q w H2 F2 R2 (sub1.trans sub2)⟩
  · cases e
theorem se_notV (ha : SemE K W ta fa) : SemE K W (tNotV ta) (e1 dNot fa) := fun B F0 σ H F ρ s R d ρ' s' e Q q => by
  unfold e1 at e
  split at e
  · rename_i x ρ1 s1 h1
    split at e
    · rename_i z h3
      cases e
      refine ha B F0 σ H F ρ s R x _ _ h1 _ fun v H1 F1 R1 sub1 d1 => ?_
      cases d1 <;> simp only [dNot, reduceCtorEq] at h3
      rename_i b
      cases h3
      exact ⟨b, rfl, q _ H1 F1 R1 sub1 (.bl _)⟩
    · cases e
  · cases e
theorem se_if (ht : SemT K W t ft) (ha : SemE K W ta fa) (hb : SemE K W tb fb) : SemE K W (tIf t ta tb) (eIf ft fa fb) := fun B F0 σ H F ρ s R d ρ' s' e Q q => by
  unfold eIf at e
  split at e
  · rename_i ρ1 s1 h1
    refine ht B F0 σ H F ρ s R _ _ _ h1 _ fun H1 F1 R1 sub1 => ?_
    exact ha B F0 σ H1 F1 _ _ R1 _ _ _ e Q fun w H2 F2 R2 sub2 => q w H2 F2 R2 (sub1.trans sub2)
  · rename_i ρ1 s1 h1
    refine ht B F0 σ H F ρ s R _ _ _ h1 _ fun H1 F1 R1 sub1 => ?_
    exact hb B F0 σ H1 F1 _ _ R1 _ _ _ e Q fun w H2 F2 R2 sub2 => q w H2 F2 R2 (sub1.trans sub2)
  · cases e
theorem se_chain {r r' : R2} {f g : D → D → Option D} (hr : SemR2 K W r f) (hr' : SemR2 K W r' g) (ha : SemE K W ta fa) (hb : SemE K W tb fb) (hc : SemE K W tc fc) : SemE K W (tChain r r' ta tb tc) (eChain f g fa fb fc) := fun B F0 σ H F ρ s R d ρ' s' e Q q => by
  unfold eChain at e
  split at e
  · rename_i x ρ1 s1 h1
    split at e
    · rename_i y ρ2 s2 h2
      refine ha B F0 σ H F ρ s R x _ _ h1 _ fun v H1 F1 R1 sub1 d1 => ?_
      refine hb B F0 σ H1 F1 _ _ R1 y _ _ h2 _ fun w H2 F2 R2 sub2 d2 => ?_
      split at e
      · rename_i h3
        refine hr B F0 σ H2 F2 _ _ R2 v w x y _ (d1.mono sub2) d2 h3 _ fun v' H' F' R' sub' d' => ?_
        cases d'
        refine ⟨true, rfl, ?_⟩
        rw [if_pos rfl]
        split at e
        · rename_i z ρ3 s3 h4
          split at e
          · rename_i z' h5
            cases e
            refine hc B F0 σ H' F' _ _ R' z _ _ h4 _ fun w' H4 F4 R4 sub4 d4 => ?_
            exact hr' B F0 σ H4 F4 _ _ R4 w w' y z _ (d2.mono (sub'.trans sub4)) d4 h5 Q fun v5 H5 F5 R5 sub5 d5 => q v5 H5 F5 R5 (sub1.trans (sub2.trans (sub'.trans (sub4.trans sub5)))) d5
          · cases e
        · cases e
      · rename_i h3
        cases e
        refine hr B F0 σ H2 F2 _ _ R2 v w x y _ (d1.mono sub2) d2 h3 _ fun v' H' F' R' sub' d' => ?_
        cases d'
        refine ⟨false, rfl, ?_⟩
        rw [if_neg Bool.false_ne_true]
        exact q _ H' F' R' (sub1.trans (sub2.trans sub')) (.bl false)
      · cases e
    · cases e
  · cases e
theorem sa_nil : SemA K W tNil aNil := fun B F0 σ H F ρ s R d ρ' s' e Q q => by
  cases e
  exact q [] H F R (Sub.refl F) .nil
theorem sa_cons {tr : TA} {fr : As W.S} (ha : SemE K W ta fa) (hr : SemA K W tr fr) : SemA K W (tCons ta tr) (aCons fa fr) := fun B F0 σ H F ρ s R d ρ' s' e Q q => by
  unfold aCons at e
  split at e
  · rename_i x ρ1 s1 h1
    split at e
    · rename_i xs ρ2 s2 h2
      cases e
      refine ha B F0 σ H F ρ s R x _ _ h1 _ fun v H1 F1 R1 sub1 d1 => ?_
      refine hr B F0 σ H1 F1 _ _ R1 xs _ _ h2 _ fun vs H2 F2 R2 sub2 d2 => ?_
      exact q _ H2 F2 R2 (sub1.trans sub2) (.cons (d1.mono sub2) d2)
    · cases e
  · cases e
theorem lim_size {n : Nat} (h : n ≤ LIM) : n ≤ sizeLine := by rw [sizeLine_eq]; exact h
theorem se_tup {tr : TA} {fr : As W.S} (hr : SemA K W tr fr) : SemE K W (tTup tr) (eTup fr) := fun B F0 σ H F ρ s R d ρ' s' e Q q => by
  unfold eTup at e
  split at e
  · rename_i xs ρ1 s1 h1
    split at e
    · rename_i hl
      cases e
      refine hr B F0 σ H F ρ s R xs _ _ h1 _ fun vs H1 F1 R1 sub1 d1 => ?_
      have hz : vs.length ≤ sizeLine := lim_size (by rw [d1.length]; exact hl)
      exact ⟨hz, lay_tup R1 hz d1 fun v H' F' R' sub' d' => q v H' F' R' (sub1.trans sub') d'⟩
    · cases e
  · cases e
theorem sn_lst {tr : TA} {fr : As W.S} (hr : SemA K W tr fr) : SemN K W (tLst tr) (eLst fr) := fun B F0 σ H F ρ s R d ρ' s' e Q q => by
  unfold eLst at e
  split at e
  · rename_i xs ρ1 s1 h1
    split at e
    · rename_i hl
      cases e
      refine hr B F0 σ H F ρ s R xs _ _ h1 _ fun vs H1 F1 R1 sub1 d1 => ?_
      have hz : vs.length ≤ sizeLine := lim_size (by rw [d1.length]; exact hl)
      exact ⟨hz, lay_new R1 hz d1 fun p vs' ds' H' F' hd R' hB hF sub' => q p vs' ds' H' F' hd R' hB hF (sub1.trans sub')⟩
    · cases e
  · cases e
theorem se_b {r : List V → Hp → VK → Prop} {op : List D → Option D} {tr : TA} {fr : As W.S} (hb : SemB K W r op) (hr : SemA K W tr fr) : SemE K W (tCB r tr) (eCallP op fr) := fun B F0 σ H F ρ s R d ρ' s' e Q q => by
  unfold eCallP at e
  split at e
  · rename_i xs ρ1 s1 h1
    split at e
    · rename_i z h2
      cases e
      refine hr B F0 σ H F ρ s R xs _ _ h1 _ fun vs H1 F1 R1 sub1 d1 => ?_
      exact hb B F0 σ H1 F1 _ _ R1 vs xs d d1 h2 Q fun v H' F' R' sub' d' => q v H' F' R' (sub1.trans sub') d'
    · cases e
  · cases e
theorem sn_b {r : List V → Hp → VK → Prop} {op : List D → Option D} {tr : TA} {fr : As W.S} (hb : SemBN K W r op) (hr : SemA K W tr fr) : SemN K W (tCB r tr) (eCallP op fr) := fun B F0 σ H F ρ s R d ρ' s' e Q q => by
  unfold eCallP at e
  split at e
  · rename_i xs ρ1 s1 h1
    split at e
    · rename_i z h2
      cases e
      refine hr B F0 σ H F ρ s R xs _ _ h1 _ fun vs H1 F1 R1 sub1 d1 => ?_
      exact hb B F0 σ H1 F1 _ _ R1 vs xs d d1 h2 Q fun p vs' ds' H' F' hd R' hB hF sub' => q p vs' ds' H' F' hd R' hB hF (sub1.trans sub')
    · cases e
  · cases e
/-- a def that reads and returns data -/
def spF (K : PySem.W.Frag) (W : Wd) (f : List D → W.S → Option (D × W.S)) : Sp := fun vs H Q _ => ∃ B F0 F s ds d s', Rel K W B F0 [] H F [] s ∧ Dvs K F vs ds ∧ f ds s = some (d, s') ∧
  ∀ v H' F', Rel K W B F0 [] H' F' [] s' → Sub F F' → Dv K F' v d → Q v H'
def spP (K : PySem.W.Frag) (f : List D → Option D) : Sp := spF K W0 fun ds _ => (f ds).map fun d => (d, ())
/-- the caller's side: all stands but the outer state's own -/
theorem Rel.inside {B F0 : Hp} {σ : L2.St} {H F : Hp} {ρ : Env} {s : W.S} (R : Rel K W B F0 σ H F ρ s) :
    ∃ B1, Rel K W B1 F [] H F [] s ∧ ∀ H' F' s', Rel K W B1 F [] H' F' [] s' → Rel K W B F0 σ H' F' ρ s' := by
  classical
  refine ⟨fun x => if W.fp x then none else H x, ⟨fun x o e => ?_, R.fh, Sub.refl F, fun x hx => .inl hx, R.of, fun x hx => if_pos hx, R.st, rfl, fun i d e => by simp at e, fun i d e => by simp at e, fun i j d e a h => by simp at h⟩, fun H' F' s' R' => ?_⟩
  · split at e
    · cases e
    · exact e
  · have key : ∀ x, ¬ W.fp x → H x ≠ none → H' x = H x := fun x hf hx => by
      cases q : H x with
      | none => exact absurd q hx
      | some o => exact R'.bh x o (by rw [if_neg hf]; exact q)
    have nF : ∀ x, F' x ≠ none → F x = none → ¬ W.fp x → H x = none := fun x h1 h2 hf => by
      rcases R'.fb x h1 with z | z
      · exact absurd h2 z
      · rw [if_neg hf] at z; exact z
    refine ⟨fun x o e => ?_, R'.fh, R.ff.trans R'.ff, fun x hx => ?_, R'.of, R.ob, R'.st, R.len, R.sl.grow R'.ff fun i d a h1 h2 hB hF hH => ?_⟩
    · have hf : ¬ W.fp x := fun z => by rw [R.ob x z] at e; cases e
      have h1 := R.bh x o e
      rw [key x hf (by rw [h1]; exact fun z => nomatch z)]; exact h1
    · by_cases h : F x = none
      · have hf : ¬ W.fp x := fun z => hx (R'.of x z)
        exact .inr (R.bh.none (nF x hx h hf))
      · exact R.fb x h
    · obtain ⟨a', e1, _, _, hf, _⟩ := R.sl.ow i d h1
      rw [h2] at e1; cases e1
      refine ⟨hB, ?_, key a hf hH⟩
      cases q : F' a with
      | none => rfl
      | some o => exact absurd (nF a (by rw [q]; exact fun z => nomatch z) hF hf) hH
theorem se_call {f : List D → W.S → Option (D × W.S)} {X : XK} {tr : TA} {fr : As W.S} (hr : SemA K W tr fr) : SemE K W (tCall (spF K W f) [] X tr) (eCall f fr) := fun B F0 σ H F ρ s R d ρ' s' e Q q => by
  unfold eCall at e
  split at e
  · rename_i xs ρ1 s1 h1
    split at e
    · rename_i z s2 h2
      cases e
      refine hr B F0 σ H F ρ s R xs _ _ h1 _ fun vs H1 F1 R1 sub1 d1 => ?_
      obtain ⟨B1, Ri, back⟩ := R1.inside
      rw [List.append_nil]
      exact ⟨B1, F1, F1, s1, xs, d, s', Ri, d1, h2, fun v H' F' R' sub' d' => q v H' F' (back _ _ _ R') (sub1.trans sub') d'⟩
    · cases e
  · cases e
/-- the same of a def that doesn't know the outer state -/
theorem Rel.inside0 {B F0 : Hp} {σ : L2.St} {H F : Hp} {ρ : Env} {s : W.S} (R : Rel K W B F0 σ H F ρ s) :
    Rel K W0 H F [] H F [] () ∧ ∀ H' F', Rel K W0 H F [] H' F' [] () → Rel K W B F0 σ H' F' ρ s := by
  refine ⟨⟨Sub.refl H, R.fh, Sub.refl F, fun x hx => .inl hx, fun x hx => hx.elim, fun x hx => hx.elim, trivial, rfl, fun i d e => by simp at e, fun i d e => by simp at e, fun i j d e a h => by simp at h⟩, fun H' F' R' => ?_⟩
  have key : ∀ x, H x ≠ none → H' x = H x := fun x hx => by
    cases q : H x with
    | none => exact absurd q hx
    | some o => exact R'.bh x o q
  have nF : ∀ x, F' x ≠ none → F x = none → H x = none := fun x h1 h2 => by
    rcases R'.fb x h1 with z | z
    · exact absurd h2 z
    · exact z
  refine ⟨R.bh.trans R'.bh, R'.fh, R.ff.trans R'.ff, fun x hx => ?_, fun x hx => ?_, R.ob, W.stay R.st fun x hx => key x (W.alive R.st hx), R.len, R.sl.grow R'.ff fun i d a h1 h2 hB hF hH => ⟨hB, ?_, key a hH⟩⟩
  · by_cases h : F x = none
    · exact .inr (R.bh.none (nF x hx h))
    · exact R.fb x h
  · cases q : F' x with
    | none => rfl
    | some o => exact absurd (nF x (by rw [q]; exact fun z => nomatch z) (R.of x hx)) (W.alive R.st hx)
  · cases q : F' a with
    | none => rfl
    | some o => exact absurd (nF a (by rw [q]; exact fun z => nomatch z) hF) hH
theorem se_callP {f : List D → Option D} {X : XK} {tr : TA} {fr : As W.S} (hr : SemA K W tr fr) : SemE K W (tCall (spP K f) [] X tr) (eCallP f fr) := fun B F0 σ H F ρ s R d ρ' s' e Q q => by
  unfold eCallP at e
  split at e
  · rename_i xs ρ1 s1 h1
    split at e
    · rename_i z h2
      cases e
      refine hr B F0 σ H F ρ s R xs _ _ h1 _ fun vs H1 F1 R1 sub1 d1 => ?_
      obtain ⟨Ri, back⟩ := R1.inside0
      rw [List.append_nil]
      exact ⟨H1, F1, F1, (), xs, d, (), Ri, d1, (by show Option.map _ (f xs) = _; rw [h2]; rfl), fun v H' F' R' sub' d' => q v H' F' (back _ _ R') (sub1.trans sub') d'⟩
    · cases e
  · cases e
theorem so_none : SemO K W tNoPart pNone := fun B F0 σ H F ρ s R d ρ' s' e Q q => by
  cases e
  exact q H F R (Sub.refl F)
theorem so_some (ha : SemE K W ta fa) : SemO K W (tPart ta) (pSome fa) := fun B F0 σ H F ρ s R d ρ' s' e Q q => by
  unfold pSome at e
  split at e
  · rename_i i ρ1 s1 h1
    cases e
    refine ha B F0 σ H F ρ s R _ _ _ h1 _ fun v H1 F1 R1 sub1 d1 => ?_
    cases d1
    exact ⟨i, rfl, q H1 F1 R1 sub1⟩
  · cases e
def SemSl (K : PySem.W.Frag) (W : Wd) (r : V → Option Int → Option Int → Hp → VK → Prop) : Prop := ∀ B F0 σ H F ρ (s : W.S), Rel K W B F0 σ H F ρ s → ∀ x dx lo hi d, Dv K F x dx → dCut lo hi dx = some d → ∀ Q : VK,
  (∀ v H' F', Rel K W B F0 σ H' F' ρ s → Sub F F' → Dv K F' v d → Q v H') → r x lo hi H Q
theorem se_cut {r : V → Option Int → Option Int → Hp → VK → Prop} {tl th : TO} {fl fh : Env → W.S → Option (Option Int × Env × W.S)} (hr : SemSl K W r) (ha : SemE K W ta fa) (hl : SemO K W tl fl) (hh : SemO K W th fh) : SemE K W (tSl r ta tl th) (eCut fa fl fh) := fun B F0 σ H F ρ s R d ρ' s' e Q q => by
  unfold eCut at e
  split at e
  · rename_i x ρ1 s1 h1
    split at e
    · rename_i l ρ2 s2 h2
      split at e
      · rename_i h ρ3 s3 h3
        split at e
        · rename_i z h4
          cases e
          refine ha B F0 σ H F ρ s R x _ _ h1 _ fun v H1 F1 R1 sub1 d1 => ?_
          refine hl B F0 σ H1 F1 _ _ R1 l _ _ h2 _ fun H2 F2 R2 sub2 => ?_
          refine hh B F0 σ H2 F2 _ _ R2 h _ _ h3 _ fun H3 F3 R3 sub3 => ?_
          exact hr B F0 σ H3 F3 _ _ R3 v x l h d (d1.mono (sub2.trans sub3)) h4 Q fun v' H' F' R' sub' d' => q v' H' F' R' (sub1.trans (sub2.trans (sub3.trans sub'))) d'
        · cases e
      · cases e
    · cases e
  · cases e
end
end Fw

/-! ### operators -/
namespace Fw
open PySem PySem.Spec PyProof.Rows L2
section
variable {K : PySem.W.Frag} {W : Wd}
/-- a rule that hands back a datum without a place, at the heap as it is -/
def Flat2 (K : PySem.W.Frag) (r : R2) (op : D → D → Option D) : Prop := ∀ F x y dx dy d, Dv K F x dx → Dv K F y dy → op dx dy = some d → ∃ v, (∀ F, Dv K F v d) ∧ ∀ H Q, Sub F H → Q v H → r x y H Q
def Flat1 (K : PySem.W.Frag) (r : List V → Hp → VK → Prop) (op : D → Option D) : Prop := ∀ F x dx d, Dv K F x dx → op dx = some d → ∃ v, (∀ F, Dv K F v d) ∧ ∀ H Q, Sub F H → Q v H → r [x] H Q
theorem r2_flat {r : R2} {op : D → D → Option D} (h : Flat2 K r op) : SemR2 K W r op :=
  fun B F0 σ H F ρ s R x y dx dy d hx hy e Q q => by
    obtain ⟨v, hv, k⟩ := h F x y dx dy d hx hy e
    exact k H Q R.fh (q v H F R (Sub.refl F) (hv F))
theorem f2_sub : Flat2 K (rI0 fun i j => .int (i - j)) dSub := fun F x y dx dy d hx hy e => by
  cases hx <;> cases hy <;> simp only [dSub, Option.some.injEq, reduceCtorEq] at e
  subst e
  exact ⟨_, fun _ => .int _, fun H Q _ q => ⟨_, _, rfl, rfl, q⟩⟩
theorem f2_lt : Flat2 K (rI0 fun i j => .bl (decide (i < j))) dLt := fun F x y dx dy d hx hy e => by
  cases hx <;> cases hy <;> simp only [dLt, Option.some.injEq, reduceCtorEq] at e
  subst e
  exact ⟨_, fun _ => .bl _, fun H Q _ q => ⟨_, _, rfl, rfl, q⟩⟩
theorem f2_le : Flat2 K (rI0 fun i j => .bl (decide (i ≤ j))) dLe := fun F x y dx dy d hx hy e => by
  cases hx <;> cases hy <;> simp only [dLe, Option.some.injEq, reduceCtorEq] at e
  subst e
  exact ⟨_, fun _ => .bl _, fun H Q _ q => ⟨_, _, rfl, rfl, q⟩⟩
theorem f2_gt : Flat2 K (rI0 fun i j => .bl (decide (j < i))) dGt := fun F x y dx dy d hx hy e => by
  cases hx <;> cases hy <;> simp only [dGt, Option.some.injEq, reduceCtorEq] at e
  subst e
  exact ⟨_, fun _ => .bl _, fun H Q _ q => ⟨_, _, rfl, rfl, q⟩⟩
theorem f2_ge : Flat2 K (rI0 fun i j => .bl (decide (j ≤ i))) dGe := fun F x y dx dy d hx hy e => by
  cases hx <;> cases hy <;> simp only [dGe, Option.some.injEq, reduceCtorEq] at e
  subst e
  exact ⟨_, fun _ => .bl _, fun H Q _ q => ⟨_, _, rfl, rfl, q⟩⟩
theorem f2_mod : Flat2 K (rI (fun _ j => 0 < j) fun i j => .int (i % j)) dMod := fun F x y dx dy d hx hy e => by
  cases hx <;> cases hy <;> simp only [dMod, reduceCtorEq] at e
  split at e
  · rename_i h
    cases e
    exact ⟨_, fun _ => .int _, fun H Q _ q => ⟨_, _, rfl, rfl, h, q⟩⟩
  · cases e
theorem f2_fdiv : Flat2 K (rI CDiv fun i j => .int (i / j)) dFdiv := fun F x y dx dy d hx hy e => by
  cases hx <;> cases hy <;> simp only [dFdiv, reduceCtorEq] at e
  split at e
  · rename_i h
    cases e
    exact ⟨_, fun _ => .int _, fun H Q _ q => ⟨_, _, rfl, rfl, h, q⟩⟩
  · cases e
theorem f2_pow : Flat2 K (rI CPow fun i j => .int (i ^ j.toNat)) dPow := fun F x y dx dy d hx hy e => by
  cases hx <;> cases hy <;> simp only [dPow, reduceCtorEq] at e
  split at e
  · rename_i h
    cases e
    exact ⟨_, fun _ => .int _, fun H Q _ q => ⟨_, _, rfl, rfl, h, q⟩⟩
  · cases e
theorem r1_neg : SemR1 K W (rU fun i => .int (-i)) dNeg := fun B F0 σ H F ρ s R x dx d hx e Q q => by
  cases hx <;> simp only [dNeg, Option.some.injEq, reduceCtorEq] at e
  subst e
  exact ⟨_, rfl, q _ H F R (Sub.refl F) (.int _)⟩
/-- + of ints, lists, tuples -/
def rAddA (K : PySem.W.Frag) : R2 := fun x y H Q => (rI0 (fun i j => .int (i + j)) x y H Q ∨ rCatA K x y H Q) ∨ rCat x y H Q
theorem op_addA {X : Cx} : OpR X (binaryOp .Add) (rAddA X.K) := (op_add.or op_catA).or op_cat
theorem r2_add : SemR2 K W (rAddA K) dAdd := fun B F0 σ H F ρ s R x y dx dy d hx hy e Q q => by
  cases hx <;> cases hy <;> simp only [dAdd, Option.some.injEq, reduceCtorEq] at e
  · subst e
    exact .inl (.inl ⟨_, _, rfl, rfl, q _ H F R (Sub.refl F) (.int _)⟩)
  · rename_i h1 z1 r1 _ _ _ h2 z2 r2
    split at e
    · rename_i hl
      cases e
      have hz : _ ≤ sizeLine := lim_size (by rw [← r1.length, ← r2.length] at hl; exact hl)
      refine .inr ⟨_, _, _, _, rfl, rfl, R.fh _ _ h1, R.fh _ _ h2, hz, lay_lst R (by rw [List.length_append]; exact hz) (r1.append r2) q⟩
    · cases e
  · rename_i h1 z1 r1 _ _ _ h2 z2 r2
    split at e
    · rename_i hl
      cases e
      have hz : _ ≤ sizeLine := lim_size (by rw [← r1.length, ← r2.length] at hl; exact hl)
      refine .inl (.inr ⟨_, _, _, _, rfl, rfl, R.fh.seqT h1, R.fh.seqT h2, hz, fun e0 => ?_, fun _ e0 => ?_, fun _ _ => lay_tup R (by rw [List.length_append]; exact hz) (r1.append r2) q⟩)
      · subst e0
        cases r1
        exact q _ H F R (Sub.refl F) (.tup h2 z2 r2)
      · subst e0
        cases r2
        rw [List.append_nil] at *
        exact q _ H F R (Sub.refl F) (.tup h1 z1 r1)
    · cases e
theorem f2_eq : Flat2 K (rEqD K) dEq := fun F x y dx dy d hx hy e => by
  unfold dEq at e
  split at e
  · rename_i h
    cases e
    obtain ⟨h1, h2⟩ := h
    unfold D.eqOk at h1 h2
    rw [Bool.and_eq_true] at h1 h2
    exact ⟨_, fun _ => .bl _, fun H Q sub q => ⟨_, _, Dv.dp _ h1.1 (hx.mono sub), Dv.dp _ h2.1 (hy.mono sub), h1.2, h2.2, q⟩⟩
  · cases e
theorem f2_ne : Flat2 K (rNeD K) dNe := fun F x y dx dy d hx hy e => by
  unfold dNe at e
  split at e
  · rename_i h
    cases e
    obtain ⟨h1, h2⟩ := h
    unfold D.eqOk at h1 h2
    rw [Bool.and_eq_true] at h1 h2
    exact ⟨_, fun _ => .bl _, fun H Q sub q => ⟨_, _, Dv.dp _ h1.1 (hx.mono sub), Dv.dp _ h2.1 (hy.mono sub), h1.2, h2.2, q⟩⟩
  · cases e
/-- in of a list, of a tuple -/
def rInA (K : PySem.W.Frag) : R2 := fun x y H Q => rInD K x y H Q ∨ ∃ d ds, Dp K H x d ∧ Dp K H y (.tuple ds) ∧ SeqAt.shaped d = true ∧ SeqAt.shaped (.tuple ds) = true ∧ Q (.bl (ds.any fun z => PyData.eqv z d)) H
def rNotInA (K : PySem.W.Frag) : R2 := fun x y H Q => rNotInD K x y H Q ∨ ∃ d ds, Dp K H x d ∧ Dp K H y (.tuple ds) ∧ SeqAt.shaped d = true ∧ SeqAt.shaped (.tuple ds) = true ∧ Q (.bl (!ds.any fun z => PyData.eqv z d)) H
theorem room_tup {A : Around} {d : PyData} {ds : List PyData} (sd : SeqAt.shaped d = true) (hu : A.units + 65 < cLine) : A.units + 1 + min (PyData.depthAll ds) d.depth < cLine := by
  have h1 := SeqAt.depth_of_shaped sd
  have h2 : min (PyData.depthAll ds) d.depth ≤ d.depth := Nat.min_le_right _ _
  omega
theorem op_inA {X : Cx} (hu : X.A.units + 65 < cLine) : OpR X (compareOp .In) (rInA X.K) := (op_inD hu).or fun pins s σ H x y v u Q I rx ry h => by
  obtain ⟨d, ds, hd, he, sd, se, q⟩ := h
  obtain ⟨as, r1⟩ := Dp.reads I d x v hd rx
  obtain ⟨bs, r2⟩ := Dp.reads I (.tuple ds) y u he ry
  exact SeqAt.in_tuple_reads r2 r1 (SeqAt.canLay_of_shaped se) (SeqAt.canLay_of_shaped sd) (room_tup sd hu) ⟨.bl _, H, I, rfl, q⟩
theorem op_notInA {X : Cx} (hu : X.A.units + 65 < cLine) : OpR X (compareOp .NotIn) (rNotInA X.K) := (op_notInD hu).or fun pins s σ H x y v u Q I rx ry h => by
  obtain ⟨d, ds, hd, he, sd, se, q⟩ := h
  obtain ⟨as, r1⟩ := Dp.reads I d x v hd rx
  obtain ⟨bs, r2⟩ := Dp.reads I (.tuple ds) y u he ry
  exact SeqAt.notIn_tuple_reads r2 r1 (SeqAt.canLay_of_shaped se) (SeqAt.canLay_of_shaped sd) (room_tup sd hu) ⟨.bl _, H, I, rfl, q⟩
theorem any_pys (x : D) : ∀ ds : List D, (ds.any fun z => D.eqv z x) = ((D.pys ds).any fun z => PyData.eqv z x.py)
  | [] => by simp [D.pys]
  | d :: ds => by
    have := any_pys x ds
    rw [List.any_cons, D.pys, List.any_cons, this]
    rfl
theorem f2_in : Flat2 K (rInA K) dIn := fun F x y dx dy d hx hy e => by
  cases dy <;> simp only [dIn, reduceCtorEq] at e
  all_goals
    split at e
    · rename_i h
      cases e
      obtain ⟨h1, h2⟩ := h
      unfold D.eqOk at h1 h2
      rw [Bool.and_eq_true] at h1 h2
      refine ⟨_, fun _ => .bl _, fun H Q sub q => ?_⟩
      rw [any_pys] at q
      first
        | exact .inl ⟨_, _, Dv.dp _ h1.1 (hx.mono sub), Dv.dp _ h2.1 (hy.mono sub), h1.2, h2.2, q⟩
        | exact .inr ⟨_, _, Dv.dp _ h1.1 (hx.mono sub), Dv.dp _ h2.1 (hy.mono sub), h1.2, h2.2, q⟩
    · cases e
theorem f2_notIn : Flat2 K (rNotInA K) dNotIn := fun F x y dx dy d hx hy e => by
  cases dy <;> simp only [dNotIn, dIn, Option.bind_none, reduceCtorEq] at e
  all_goals
    split at e
    · rename_i h
      simp only [Option.bind_some, dNot, Option.some.injEq] at e
      subst e
      obtain ⟨h1, h2⟩ := h
      unfold D.eqOk at h1 h2
      rw [Bool.and_eq_true] at h1 h2
      refine ⟨_, fun _ => .bl _, fun H Q sub q => ?_⟩
      rw [any_pys] at q
      first
        | exact .inl ⟨_, _, Dv.dp _ h1.1 (hx.mono sub), Dv.dp _ h2.1 (hy.mono sub), h1.2, h2.2, q⟩
        | exact .inr ⟨_, _, Dv.dp _ h1.1 (hx.mono sub), Dv.dp _ h2.1 (hy.mono sub), h1.2, h2.2, q⟩
    · cases e
theorem ixD_eq (n : Nat) (i : Int) : ixN n i = ixD n i := rfl
theorem r2_ix : SemR2 K W (rIx K) dIx := fun B F0 σ H F ρ s R x y dx dy d hx hy e Q q => by
  cases hx <;> cases hy <;> simp only [dIx, reduceCtorEq] at e
  all_goals
    rename_i xs ds h1 z1 r1 i
    unfold atD at e
    rw [← r1.length] at e
    cases hi : ixD xs.length i with
    | none => rw [hi] at e; cases e
    | some j =>
      rw [hi] at e
      obtain ⟨v, hv, hd⟩ := r1.get j (show ds[j]? = some d from e)
      have ha : atI xs i = some v := by
        show (ixN xs.length i).bind _ = _
        rw [ixD_eq, hi]; exact hv
      first
        | exact .inl ⟨_, _, _, _, rfl, rfl, .of (R.fh _ _ h1), ha, q v H F R (Sub.refl F) hd⟩
        | exact .inr (.inl ⟨_, _, _, _, rfl, rfl, R.fh.seqT h1, ha, q v H F R (Sub.refl F) hd⟩)
theorem sIx_eq (n d : Nat) (o : Option Int) : HT.sIx n d o = sIxD n d o := by
  cases o with
  | none => rfl
  | some i =>
    show (if i < 0 then (i + (n : Int)).toNat else min i.toNat n) = (if 0 ≤ i then min i.toNat n else (i + n).toNat)
    by_cases h : i < 0
    · rw [if_pos h, if_neg (by omega)]
    · rw [if_neg h, if_pos (by omega)]
theorem cut_eq (xs : List V) (lo hi : Option Int) : cutV xs lo hi = cutD xs lo hi := by
  unfold cutV cutD
  rw [sIx_eq, sIx_eq]
theorem Dvs.cut {F : Hp} {vs : List V} {ds : List D} (r : Dvs K F vs ds) (lo hi : Option Int) : Dvs K F (cutD vs lo hi) (cutD ds lo hi) := by
  unfold cutD
  rw [r.length]
  exact (r.drop _).take _
theorem cut_len {α : Type} (xs : List α) (lo hi : Option Int) : (cutD xs lo hi).length ≤ xs.length := by
  unfold cutD
  rw [List.length_take, List.length_drop]
  omega
def rSlLT (K : PySem.W.Frag) : V → Option Int → Option Int → Hp → VK → Prop := fun x lo hi H Q => rSlL K x lo hi H Q ∨ rSlA K x lo hi H Q
theorem sl_any {X : Cx} : SlR X (rSlLT X.K) := sl_list.or sl_tupA
theorem rs_cut : SemSl K W (rSlLT K) := fun B F0 σ H F ρ s R x dx lo hi d hx e Q q => by
  cases hx <;> simp only [dCut, Option.some.injEq, reduceCtorEq] at e
  · rename_i h1 z1 r1
    subst e
    refine .inl ⟨_, _, rfl, .of (R.fh _ _ h1), by rw [cut_eq]; exact lay_lst R (Nat.le_trans (cut_len _ lo hi) z1) (r1.cut lo hi) q⟩
  · rename_i h1 z1 r1
    subst e
    refine .inr ⟨_, _, rfl, R.fh.seqT h1, fun e0 => ?_, fun _ => by rw [cut_eq]; exact lay_tup R (Nat.le_trans (cut_len _ lo hi) z1) (r1.cut lo hi) q⟩
    · have e1 : ∀ ds : List D, ds.length = _ → cutD ds lo hi = ds := fun ds hl => by
        obtain ⟨a1, a2⟩ := e0
        rw [sIx_eq] at a1 a2
        unfold cutD
        rw [hl, a1, a2, Nat.sub_zero, List.drop_zero, ← hl, List.take_length]
      rw [e1 _ r1.length.symm] at q
      exact q _ H F R (Sub.refl F) (.tup h1 z1 r1)
/-! is None -/
theorem se_isN {ta : TE} {fa : E W.S} (ha : SemE K W ta fa) : SemE K W (tIsN ta) (e1 dIsN fa) := fun B F0 σ H F ρ s R d ρ' s' e Q q => by
  unfold e1 at e
  split at e
  · rename_i x ρ1 s1 h1
    split at e
    · rename_i z h3
      cases e
      refine ha B F0 σ H F ρ s R x _ _ h1 _ fun v H1 F1 R1 sub1 d1 => ?_
      cases d1 <;> simp only [dIsN, Option.some.injEq] at h3 <;> subst h3 <;> exact q _ H1 F1 R1 sub1 (.bl _)
    · cases e
  · cases e
theorem se_notN {ta : TE} {fa : E W.S} (ha : SemE K W ta fa) : SemE K W (tNotN ta) (e1 dNotN fa) := fun B F0 σ H F ρ s R d ρ' s' e Q q => by
  unfold e1 at e
  split at e
  · rename_i x ρ1 s1 h1
    split at e
    · rename_i z h3
      cases e
      refine ha B F0 σ H F ρ s R x _ _ h1 _ fun v H1 F1 R1 sub1 d1 => ?_
      cases d1 <;> simp only [dNotN, Option.some.injEq] at h3 <;> subst h3 <;> exact q _ H1 F1 R1 sub1 (.bl _)
    · cases e
  · cases e
/-! ### built-ins -/
def on1 (op : D → Option D) : List D → Option D
  | [x] => op x
  | _ => none
def on2 (op : D → D → Option D) : List D → Option D
  | [x, y] => op x y
  | _ => none
theorem b1 {r : List V → Hp → VK → Prop} {op : D → Option D} (h : Flat1 K r op) : SemB K W r (on1 op) :=
  fun B F0 σ H F ρ s R xs ds d hx e Q q => by
    cases hx with
    | nil => cases e
    | cons h1 h2 =>
      cases h2 with
      | nil =>
        obtain ⟨v, hv, k⟩ := h F _ _ d h1 e
        exact k H Q R.fh (q v H F R (Sub.refl F) (hv F))
      | cons _ _ => cases e
theorem b2 {r : List V → Hp → VK → Prop} {op : D → D → Option D} (h : ∀ F x y dx dy d, Dv K F x dx → Dv K F y dy → op dx dy = some d → ∃ v, (∀ F, Dv K F v d) ∧ ∀ H Q, Sub F H → Q v H → r [x, y] H Q) : SemB K W r (on2 op) :=
  fun B F0 σ H F ρ s R xs ds d hx e Q q => by
    cases hx with
    | nil => cases e
    | cons h1 h2 =>
      cases h2 with
      | nil => cases e
      | cons h3 h4 =>
        cases h4 with
        | nil =>
          obtain ⟨v, hv, k⟩ := h F _ _ _ _ d h1 h3 e
          exact k H Q R.fh (q v H F R (Sub.refl F) (hv F))
        | cons _ _ => cases e
theorem f1_len : Flat1 K (fun xs H Q => ∃ p ys, xs = [.ref p] ∧ (SqL K H p ys ∨ SqT K H p ys) ∧ Q (.int ys.length) H) dLen := fun F x dx d hx e => by
  cases hx <;> simp only [dLen, Option.some.injEq, reduceCtorEq] at e
  · rename_i h1 z1 r1
    subst e
    exact ⟨_, fun _ => .int _, fun H Q sub q => ⟨_, _, rfl, .inl (.of (sub _ _ h1)), by rw [r1.length]; exact q⟩⟩
  · rename_i h1 z1 r1
    subst e
    exact ⟨_, fun _ => .int _, fun H Q sub q => ⟨_, _, rfl, .inr (sub.seqT h1), by rw [r1.length]; exact q⟩⟩
theorem f1_sum : Flat1 K (rSum K) dSum := fun F x dx d hx e => by
  cases hx <;> simp only [dSum, Option.map_eq_some_iff, reduceCtorEq] at e
  rename_i h1 z1 r1
  obtain ⟨is, e1, e2⟩ := e
  subst e2
  have := r1.ints _ e1
  subst this
  exact ⟨_, fun _ => .int _, fun H Q sub q => ⟨_, _, rfl, .of (sub _ _ h1), q⟩⟩
theorem f1_all : Flat1 K (rAll K) dAll := fun F x dx d hx e => by
  cases hx <;> simp only [dAll, Option.map_eq_some_iff, reduceCtorEq] at e
  rename_i h1 z1 r1
  obtain ⟨is, e1, e2⟩ := e
  subst e2
  have := r1.bools _ e1
  subst this
  exact ⟨_, fun _ => .bl _, fun H Q sub q => ⟨_, _, rfl, .of (sub _ _ h1), q⟩⟩
theorem f1_any : Flat1 K (rAny K) dAny := fun F x dx d hx e => by
  cases hx <;> simp only [dAny, Option.map_eq_some_iff, reduceCtorEq] at e
  rename_i h1 z1 r1
  obtain ⟨is, e1, e2⟩ := e
  subst e2
  have := r1.bools _ e1
  subst this
  exact ⟨_, fun _ => .bl _, fun H Q sub q => ⟨_, _, rfl, .of (sub _ _ h1), q⟩⟩
theorem b_max2 : SemB K W (fun xs H Q => ∃ i j, xs = [.int i, .int j] ∧ Q (.int (if j > i then j else i)) H) (on2 dMax2) := b2 fun F x y dx dy d hx hy e => by
  cases hx <;> cases hy <;> simp only [dMax2, Option.some.injEq, reduceCtorEq] at e
  subst e
  exact ⟨_, fun _ => .int _, fun H Q sub q => ⟨_, _, rfl, q⟩⟩
theorem b_min2 : SemB K W (fun xs H Q => ∃ i j, xs = [.int i, .int j] ∧ Q (.int (if j < i then j else i)) H) (on2 dMin2) := b2 fun F x y dx dy d hx hy e => by
  cases hx <;> cases hy <;> simp only [dMin2, Option.some.injEq, reduceCtorEq] at e
  subst e
  exact ⟨_, fun _ => .int _, fun H Q sub q => ⟨_, _, rfl, q⟩⟩
theorem f1_abs : Flat1 K (fun xs H Q => ∃ i, xs = [.int i] ∧ Q (.int (if i < 0 then -i else i)) H) dAbs := fun F x dx d hx e => by
  cases hx <;> simp only [dAbs, Option.some.injEq, reduceCtorEq] at e
  subst e
  exact ⟨_, fun _ => .int _, fun H Q sub q => ⟨_, rfl, q⟩⟩
theorem f1_int : Flat1 K (fun xs H Q => (∃ i, xs = [.int i] ∧ Q (.int i) H) ∨ ∃ k, xs = [.bl k] ∧ Q (.int (if k then 1 else 0)) H) dInt := fun F x dx d hx e => by
  cases hx <;> simp only [dInt, Option.some.injEq, reduceCtorEq] at e
  · subst e
    exact ⟨_, fun _ => .int _, fun H Q sub q => .inr ⟨_, rfl, q⟩⟩
  · subst e
    exact ⟨_, fun _ => .int _, fun H Q sub q => .inl ⟨_, rfl, q⟩⟩
theorem bn_list : SemBN K W (fun xs H Q => ∃ p ys, xs = [.ref p] ∧ (SqL K H p ys ∨ SqT K H p ys) ∧ ∀ l, H l = none → Q (.ref l) (upd H l (.lst ys))) (on1 dList) := fun B F0 σ H F ρ s R xs ds d hx e Q q => by
  cases hx with
  | nil => cases e
  | cons h1 h2 =>
    cases h2 with
    | cons _ _ => cases e
    | nil =>
      cases h1 <;> simp only [on1, dList, Option.some.injEq, reduceCtorEq] at e
      · rename_i h1 z1 r1
        subst e
        exact ⟨_, _, rfl, .inl (.of (R.fh _ _ h1)), lay_new R z1 r1 q⟩
      · rename_i h1 z1 r1
        subst e
        exact ⟨_, _, rfl, .inr (R.fh.seqT h1), lay_new R z1 r1 q⟩
theorem b_tuple : SemB K W (fun xs H Q => ∃ p ys, xs = [.ref p] ∧ ((SqL K H p ys ∧ ∀ l, H l = none → Q (.ref l) (upd H l (.tup ys))) ∨ (SqT K H p ys ∧ Q (.ref p) H))) (on1 dTuple) := fun B F0 σ H F ρ s R xs ds d hx e Q q => by
  cases hx with
  | nil => cases e
  | cons h1 h2 =>
    cases h2 with
    | cons _ _ => cases e
    | nil =>
      cases h1 <;> simp only [on1, dTuple, Option.some.injEq, reduceCtorEq] at e
      · rename_i h1 z1 r1
        subst e
        exact ⟨_, _, rfl, .inl ⟨.of (R.fh _ _ h1), lay_tup R z1 r1 q⟩⟩
      · rename_i h1 z1 r1
        subst e
        exact ⟨_, _, rfl, .inr ⟨R.fh.seqT h1, q _ H F R (Sub.refl F) (.tup h1 z1 r1)⟩⟩
end
end Fw

/-! ### owned lists -/
namespace Fw
open PySem PySem.Spec PyProof.Rows L2
section
variable {K : PySem.W.Frag} {W : Wd} {B F0 H H' F F' : Hp} {σ σ' : L2.St} {ρ ρ' : Env} {s s' : W.S} {i : Nat}
theorem Rel.look (R : Rel K W B F0 σ H F ρ s) {x : Sl} (h : ρ[i]? = some (some x)) : ∃ v F', σ[i]? = some (some v) ∧ Sub F F' ∧ Sub F' H ∧ Dv K F' v x.d := by
  cases x with
  | sh d =>
    obtain ⟨v, h1, h2⟩ := R.sl.sh i d h
    exact ⟨v, F, h1, Sub.refl F, R.fh, h2⟩
  | ow d =>
    obtain ⟨a, h1, h2, h3, h4, o, h5, h6⟩ := R.sl.ow i d h
    have sub : Sub F (upd F a o) := Sub.upd h3
    refine ⟨.ref a, upd F a o, h1, sub, fun x u e => ?_, h6.dv h3⟩
    by_cases z : x = a
    · subst z; rw [upd_same] at e; cases e; exact h5
    · rw [upd_ne z] at e; exact R.fh x u e
theorem se_bl1 {r : List V → Hp → VK → Prop} {op : D → Option D} (h : Flat1 K r op) {i : Nat} : SemE K W (tCB r (tCons (tVar i) tNil)) (eB1 op i) := fun B F0 σ H F ρ s R d ρ' s' e Q q => by
  unfold eB1 at e
  split at e
  · rename_i x hx
    split at e
    · rename_i z hz
      cases e
      obtain ⟨v, F', h1, _, h2, h3⟩ := R.look hx
      obtain ⟨w, hw, k⟩ := h F' v _ _ h3 hz
      exact ⟨v, h1, k H Q h2 (q w H F R (Sub.refl F) (hw F))⟩
    · cases e
  · cases e
theorem se_blL {r : R2} {op : D → D → Option D} {tb : TE} {fb : E W.S} (h : Flat2 K r op) (hb : SemE K W tb fb) {i : Nat} : SemE K W (tOp r (tVar i) tb) (eBL op i fb) := fun B F0 σ H F ρ s R d ρ' s' e Q q => by
  unfold eBL at e
  split at e
  · rename_i x0 hx0
    split at e
    · rename_i y ρ1 s1 h1
      split at e
      · rename_i x hx
        split at e
        · rename_i z hz
          cases e
          obtain ⟨v0, _, g0, _⟩ := R.look hx0
          refine ⟨v0, g0, hb B F0 σ H F ρ s R _ _ _ h1 _ fun w H1 F1 R1 sub1 d1 => ?_⟩
          obtain ⟨v, F', h1, sub2, h2, h3⟩ := R1.look hx
          rw [g0] at h1
          cases h1
          obtain ⟨u, hu, k⟩ := h F' v0 w _ _ _ h3 (d1.mono sub2) hz
          exact k H1 Q h2 (q u H1 F1 R1 sub1 (hu F1))
        · cases e
      · cases e
    · cases e
  · cases e
theorem se_blR {r : R2} {op : D → D → Option D} {ta : TE} {fa : E W.S} (h : Flat2 K r op) (ha : SemE K W ta fa) {i : Nat} : SemE K W (tOp r ta (tVar i)) (eBR op fa i) := fun B F0 σ H F ρ s R d ρ' s' e Q q => by
  unfold eBR at e
  split at e
  · rename_i y ρ1 s1 h1
    split at e
    · rename_i x hx
      split at e
      · rename_i z hz
        cases e
        refine ha B F0 σ H F ρ s R _ _ _ h1 _ fun w H1 F1 R1 sub1 d1 => ?_
        obtain ⟨v, F', h1, sub2, h2, h3⟩ := R1.look hx
        obtain ⟨u, hu, k⟩ := h F' w v _ _ _ (d1.mono sub2) h3 hz
        exact ⟨v, h1, k H1 Q h2 (q u H1 F1 R1 sub1 (hu F1))⟩
      · cases e
    · cases e
  · cases e
/-- an item of an owned list -/
theorem se_blIx {tb : TE} {fb : E W.S} (hb : SemE K W tb fb) {i : Nat} : SemE K W (tOp (rIx K) (tVar i) tb) (eBL dIx i fb) := fun B F0 σ H F ρ s R d ρ' s' e Q q => by
  unfold eBL at e
  split at e
  · rename_i x0 hx0
    split at e
    · rename_i y ρ1 s1 h1
      split at e
      · rename_i x hx
        split at e
        · rename_i z hz
          cases e
          obtain ⟨v0, _, g0, _⟩ := R.look hx0
          refine ⟨v0, g0, hb B F0 σ H F ρ s R _ _ _ h1 _ fun w H1 F1 R1 sub1 d1 => ?_⟩
          cases x with
          | sh dx =>
            obtain ⟨v, g1, g2⟩ := R1.sl.sh i dx hx
            rw [g0] at g1
            cases g1
            exact r2_ix B F0 σ H1 F1 _ _ R1 v0 w dx y d g2 d1 hz Q fun v' H' F' R' sub' d' => q v' H' F' R' (sub1.trans sub') d'
          | ow dx =>
            obtain ⟨a, g1, _, _, _, hh⟩ := R1.sl.ow i dx hx
            obtain ⟨ds0, rfl⟩ : ∃ ds0, dx = .lst ds0 := by
              obtain ⟨o, _, ⟨vs, ds, e1, _⟩ | ⟨ks, vs, ds, rfl, _⟩⟩ := hh
              · exact ⟨ds, e1⟩
              · cases hz
            obtain ⟨vs, ds, e1, g5, g6, g7⟩ := hh.l
            cases e1
            rw [g0] at g1
            cases g1
            cases d1 <;> simp only [Sl.d, dIx, reduceCtorEq] at hz
            rename_i k
            unfold atD at hz
            rw [← g7.length] at hz
            cases hi : ixD vs.length k with
            | none => rw [hi] at hz; cases hz
            | some j =>
              rw [hi] at hz
              obtain ⟨v, hv, hd⟩ := g7.get j (show ds0[j]? = some d from hz)
              have ha : atI vs k = some v := by
                show (ixN vs.length k).bind _ = _
                rw [ixD_eq, hi]; exact hv
              exact .inl ⟨_, _, _, _, rfl, rfl, .of g5, ha, q v H1 F1 R1 sub1 hd⟩
        · cases e
      · cases e
    · cases e
  · cases e
theorem lim_lt {n : Nat} (h : n < LIM) : n < sizeLine := by rw [sizeLine_eq]; exact h
theorem se_app {ta : TE} {fa : E W.S} (ha : SemE K W ta fa) {i : Nat} : SemE K W (tBM K "list" rAppend (tVar i) (tCons ta tNil)) (eApp i fa) := fun B F0 σ H F ρ s R d ρ' s' e Q q => by
  unfold eApp at e
  split at e
  · rename_i ds0 hx0
    split at e
    · rename_i y ρ1 s1 h1
      split at e
      · rename_i ds hx
        split at e
        · rename_i hl
          cases e
          obtain ⟨a, g1, _, _, _, hh0⟩ := R.sl.ow i _ hx0
          obtain ⟨vs0, ds0', e0, g5, _⟩ := hh0.l
          refine ⟨_, g1, .inl ⟨rfl, _, SqL.of g5⟩, ha B F0 σ H F ρ s R _ _ _ h1 _ fun w H1 F1 R1 sub1 d1 => ?_⟩
          obtain ⟨a', k1, _, _, _, hh1⟩ := R1.sl.ow i _ hx
          obtain ⟨vs, ds', e1, k5, k6, k7⟩ := hh1.l
          cases e1
          rw [g1] at k1
          cases k1
          have hz : vs.length < sizeLine := lim_lt (by rw [k7.length]; exact hl)
          refine ⟨a, vs, w, rfl, rfl, k5, hz, ?_⟩
          exact q _ _ F1 (R1.write hx g1 (by rw [List.length_append]; exact hz) (k7.append (.cons d1 .nil))) sub1 .non
        · cases e
      · cases e
    · cases e
  · cases e
theorem se_popAt {ta : TE} {fa : E W.S} (ha : SemE K W ta fa) {i : Nat} : SemE K W (tBM K "list" rPopAt (tVar i) (tCons ta tNil)) (ePopAt i fa) := fun B F0 σ H F ρ s R d ρ' s' e Q q => by
  unfold ePopAt at e
  split at e
  · rename_i ds0 hx0
    split at e
    · rename_i k ρ1 s1 h1
      split at e
      · rename_i ds hx
        split at e
        · rename_i j hj
          split at e
          · rename_i y hy
            cases e
            obtain ⟨a, g1, _, _, _, hh0⟩ := R.sl.ow i _ hx0
            obtain ⟨vs0, ds0', e0, g5, _⟩ := hh0.l
            refine ⟨_, g1, .inl ⟨rfl, _, SqL.of g5⟩, ha B F0 σ H F ρ s R _ _ _ h1 _ fun w H1 F1 R1 sub1 d1 => ?_⟩
            obtain ⟨a', k1, _, _, _, hh1⟩ := R1.sl.ow i _ hx
            obtain ⟨vs, ds', e1, k5, k6, k7⟩ := hh1.l
            cases e1
            rw [g1] at k1
            cases k1
            cases d1
            rw [← k7.length] at hj
            obtain ⟨m1, m2, m3, m4⟩ := ixN_seq (show ixN vs.length k = some j from hj)
            obtain ⟨v, hv, hd⟩ := k7.get j hy
            have hs : vs.length ≤ 16777216 := by rw [← sizeLine_eq]; exact k6
            refine ⟨a, vs, k, j, v, rfl, rfl, k5, by omega, by omega, m1, hv, ?_⟩
            exact q _ _ F1 (R1.write hx g1 (Nat.le_trans (List.length_eraseIdx_le ..) k6) (k7.eraseIdx j)) sub1 hd
          · cases e
        · cases e
      · cases e
    · cases e
  · cases e
theorem se_pop {i : Nat} : SemE K W (tBM0 K "list" rPop (tVar i)) (ePop i) := fun B F0 σ H F ρ s R d ρ' s' e Q q => by
  unfold ePop at e
  split at e
  · rename_i ds hx
    split at e
    · rename_i y hy
      cases e
      obtain ⟨a, g1, _, _, _, hh0⟩ := R.sl.ow i _ hx
      obtain ⟨vs, ds', e0, g5, g6, g7⟩ := hh0.l
      cases e0
      obtain ⟨v, hv, hd⟩ := g7.get _ hy
      refine ⟨_, g1, .inl ⟨rfl, _, SqL.of g5⟩, a, vs, v, rfl, rfl, g5, by rw [g7.length]; exact hv, ?_⟩
      exact q _ _ F (R.write hx g1 (by rw [List.length_dropLast]; omega) g7.dropLast) (Sub.refl F) hd
    · cases e
  · cases e

/-! ### targets -/
/-- ws: the slots that may be stored -/
structure GPost (K : PySem.W.Frag) (W : Wd) (B F0 H F : Hp) (σ σ' : L2.St) (ρ' : Env) (s : W.S) (ws : List Nat) : Prop where
  rel : Rel K W B F0 σ' H F ρ' s
  out : ∀ i, i ∉ ws → σ'[i]? = σ[i]?
  len : σ'.length = σ.length
def SemG (K : PySem.W.Frag) (W : Wd) (g : TG) (tgt : Tg) (ws : List Nat) : Prop := ∀ B F0 σ H F ρ (s : W.S), Rel K W B F0 σ H F ρ s → ∀ v d ρ', Dv K F v d → tgt d ρ = some ρ' → ∀ Q, (∀ σ', GPost K W B F0 H F σ σ' ρ' s ws → Q σ' H) → g v σ H Q
def SemGs (K : PySem.W.Frag) (W : Wd) (g : TGs) (tgt : List D → Env → Option Env) (ws : List Nat) : Prop := ∀ B F0 σ H F ρ (s : W.S), Rel K W B F0 σ H F ρ s → ∀ vs ds ρ', Dvs K F vs ds → tgt ds ρ = some ρ' → ∀ Q, (∀ σ', GPost K W B F0 H F σ σ' ρ' s ws → Q σ' H) → g vs σ H Q
theorem sg_n {i : Nat} : SemG K W (gName i) (gN i) [i] := fun B F0 σ H F ρ s R v d ρ' hv e Q q => by
  cases e
  exact q _ ⟨R.setSh hv, fun j hj => set_get_ne (fun z => hj (by rw [z]; exact List.mem_singleton.mpr rfl)), List.length_set⟩
theorem sgs_nil : SemGs K W L2.gNil Fw.gNil [] := fun B F0 σ H F ρ s R vs ds ρ' hv e Q q => by
  cases hv with
  | nil =>
    cases e
    exact ⟨rfl, q σ ⟨R, fun _ _ => rfl, rfl⟩⟩
  | cons _ _ => cases e
theorem sgs_cons {g : TG} {t : Tg} {gs : TGs} {ts : List D → Env → Option Env} {w1 w2 : List Nat} (h : SemG K W g t w1) (hs : SemGs K W gs ts w2) : SemGs K W (L2.gCons g gs) (Fw.gCons t ts) (w1 ++ w2) := fun B F0 σ H F ρ s R vs ds ρ' hv e Q q => by
  cases hv with
  | nil => cases e
  | cons h1 h2 =>
    simp only [Fw.gCons] at e
    split at e
    · rename_i ρ1 e1
      refine ⟨_, _, rfl, h B F0 σ H F ρ s R _ _ _ h1 e1 _ fun σ1 G1 => ?_⟩
      refine hs B F0 σ1 H F _ s G1.rel _ _ _ h2 e Q fun σ2 G2 => q σ2 ⟨G2.rel, fun i hi => ?_, G2.len.trans G1.len⟩
      rw [List.mem_append] at hi
      rw [G2.out i (fun z => hi (.inr z)), G1.out i (fun z => hi (.inl z))]
    · cases e
theorem sg_tup {n : Nat} {gs : TGs} {ts : List D → Env → Option Env} {ws : List Nat} (hs : SemGs K W gs ts ws) (hn : ∀ ds ρ ρ', ts ds ρ = some ρ' → ds.length = n) : SemG K W (L2.gTup K n gs) (Fw.gTup ts) ws := fun B F0 σ H F ρ s R v d ρ' hv e Q q => by
  cases hv <;> simp only [Fw.gTup, reduceCtorEq] at e
  rename_i h1 z1 r1
  exact ⟨_, _, rfl, R.fh.seqT h1, by rw [r1.length]; exact hn _ _ _ e, hs B F0 σ H F ρ s R _ _ _ r1 e Q q⟩
theorem gn_nil : ∀ ds ρ ρ', Fw.gNil ds ρ = some ρ' → ds.length = 0 := fun ds ρ ρ' e => by
  cases ds with
  | nil => rfl
  | cons _ _ => cases e
theorem gn_cons {t : Tg} {ts : List D → Env → Option Env} {n : Nat} (h : ∀ ds ρ ρ', ts ds ρ = some ρ' → ds.length = n) : ∀ ds ρ ρ', Fw.gCons t ts ds ρ = some ρ' → ds.length = n + 1 := fun ds ρ ρ' e => by
  cases ds with
  | nil => cases e
  | cons d r =>
    simp only [Fw.gCons] at e
    split at e
    · rw [List.length_cons, h _ _ _ e]
    · cases e

/-! ### what is walked -/
def IsIt (K : PySem.W.Frag) (F : Hp) (J : It) (ds : List D) : Prop := ∀ i H, Sub F H → (ds.length ≤ i → J.stop i H) ∧ ∀ d, ds[i]? = some d → J.go i H ∧ ∀ x H', J.yld i H x H' →
  (H' = H ∧ Dv K F x d) ∨ ∃ T xs, H T = none ∧ H' = upd H T (.tup xs) ∧ Dv K (upd F T (.tup xs)) x d
def SemI (K : PySem.W.Frag) (W : Wd) (wi : TI) (f : I W.S) : Prop := ∀ B F0 σ H F ρ (s : W.S), Rel K W B F0 σ H F ρ s → ∀ ds ρ' s', f ρ s = some (ds, ρ', s') → ∀ R : It → Hp → Prop,
  (∀ J H' F', Rel K W B F0 σ H' F' ρ' s' → Sub F F' → ds.length ≤ sizeLine → IsIt K F' J ds → R J H') → wi σ H R
theorem IsIt.mono {J : It} {ds : List D} (h : IsIt K F J ds) (e : Sub F F') : IsIt K F' J ds := fun i H sub => by
  obtain ⟨h1, h2⟩ := h i H (e.trans sub)
  refine ⟨h1, fun d hd => ?_⟩
  obtain ⟨g, y⟩ := h2 d hd
  refine ⟨g, fun x H' hy => ?_⟩
  rcases y x H' hy with ⟨e1, e2⟩ | ⟨T, xs, t1, t2, t3⟩
  · exact .inl ⟨e1, e2.mono e⟩
  · exact .inr ⟨T, xs, t1, t2, t3.mono e.upd2⟩
theorem isIt_list {a : Addr} {vs : List V} {ds : List D} (h : F a = some (.lst vs)) (r : Dvs K F vs ds) (hk : ∀ H xs, Sub F H → SqL K H a xs → xs = vs) : IsIt K F (Itl K a) ds := fun i H sub => by
  have hs : SqL K H a vs := .of (sub _ _ h)
  refine ⟨fun hl => ⟨vs, hs, by rw [r.length]; exact hl⟩, fun d hd => ?_⟩
  obtain ⟨v, h1, h2⟩ := r.get i hd
  refine ⟨⟨vs, v, hs, h1⟩, fun x H' hy => ?_⟩
  obtain ⟨e1, e2⟩ := hy
  have := e2 vs hs
  rw [h1] at this
  cases this
  exact .inl ⟨e1, h2⟩
theorem isIt_listA {a : Addr} {vs : List V} {ds : List D} (h : F a = some (.lst vs)) (r : Dvs K F vs ds) : IsIt K F (Itl K a) ds := fun i H sub => by
  have hs : SqL K H a vs := .of (sub _ _ h)
  refine ⟨fun hl => ⟨vs, hs, by rw [r.length]; exact hl⟩, fun d hd => ?_⟩
  obtain ⟨v, h1, h2⟩ := r.get i hd
  refine ⟨⟨vs, v, hs, h1⟩, fun x H' hy => ?_⟩
  obtain ⟨e1, e2⟩ := hy
  have := e2 vs hs
  rw [h1] at this
  cases this
  exact .inl ⟨e1, h2⟩
theorem isIt_tup {a : Addr} {vs : List V} {ds : List D} (h : SqT K F a vs) (r : Dvs K F vs ds) : IsIt K F (Itt K a) ds := fun i H sub => by
  have hs : SqT K H a vs := sub.seqT h
  refine ⟨fun hl => ⟨vs, hs, by rw [r.length]; exact hl⟩, fun d hd => ?_⟩
  obtain ⟨v, h1, h2⟩ := r.get i hd
  refine ⟨⟨vs, v, hs, h1⟩, fun x H' hy => ?_⟩
  obtain ⟨e1, e2⟩ := hy
  have := e2 vs hs
  rw [h1] at this
  cases this
  exact .inl ⟨e1, h2⟩
/-- a list or a tuple -/
def iAny (K : PySem.W.Frag) (tl : TE) : TI := fun σ H R => tl σ H fun x H1 => ∃ a, x = .ref a ∧ (((∃ xs, SqL K H1 a xs) ∧ R (Itl K a) H1) ∨ ((∃ xs, SqT K H1 a xs) ∧ R (Itt K a) H1))
theorem pi_any {X : Cx} {tg l : Expr} {tl : TE} (hl : PE X l tl) : PI X tg l (iAny X.K tl) := by
  refine ⟨fun pins s σ H R I h => ?_⟩
  refine thn (hl.run pins s σ H _ I h) fun v s1 ⟨x, H1, I1, r1, q1⟩ => ?_
  obtain ⟨a, e, q⟩ := q1
  subst e
  cases r1
  rcases q with ⟨⟨xs, hq⟩, q⟩ | ⟨⟨xs, hq⟩, q⟩
  · obtain ⟨its, rv, p, hz⟩ := I1.list hq
    refine wpAny_pyIter_list p.isList ?_
    refine ⟨s1.heap.objs.size, [s1.heap.objs.size], _, _, H1, rfl, I1.kept (t' := s1.toks) fun b o e => Heap.get?_push_of_some _ e, turn_list a _, ⟨_, Heap.get?_push_size _ rfl, rfl, rfl⟩, fun b hb => ?_, q⟩
    have e : b = s1.heap.objs.size := by simpa using hb
    subst e
    exact I1.fpOk (Nat.le_refl _) (I1.hok.fresh (Nat.le_refl _))
  · obtain ⟨its, rv, p, hz⟩ := I1.tuple hq
    refine wpAny_pyIter_tuple (show s1.heap.IsTuple a its.toArray from p) ?_
    refine ⟨s1.heap.objs.size, [s1.heap.objs.size], _, _, H1, rfl, I1.kept (t' := s1.toks) fun b o e => Heap.get?_push_of_some _ e, turn_tuple a _, ⟨_, Heap.get?_push_size _ rfl, rfl, rfl⟩, fun b hb => ?_, q⟩
    have e : b = s1.heap.objs.size := by simpa using hb
    subst e
    exact I1.fpOk (Nat.le_refl _) (I1.hok.fresh (Nat.le_refl _))
theorem si_any {ta : TE} {fa : E W.S} (ha : SemE K W ta fa) : SemI K W (iAny K ta) (iE fa) := fun B F0 σ H F ρ s R ds ρ' s' e Q q => by
  unfold iE at e
  split at e
  · rename_i x ρ1 s1 h1
    split at e
    · rename_i ds1 h2
      cases e
      refine ha B F0 σ H F ρ s R _ _ _ h1 _ fun v H1 F1 R1 sub1 d1 => ?_
      cases d1 <;> simp only [items?, Option.some.injEq, reduceCtorEq] at h2
      · rename_i g1 z1 r1
        subst h2
        exact ⟨_, rfl, .inl ⟨⟨_, .of (R1.fh _ _ g1)⟩, q _ H1 F1 R1 sub1 (by rw [← r1.length]; exact z1) (isIt_listA g1 r1)⟩⟩
      · rename_i g1 z1 r1
        subst h2
        exact ⟨_, rfl, .inr ⟨⟨_, R1.fh.seqT g1⟩, q _ H1 F1 R1 sub1 (by rw [← r1.length]; exact z1) (isIt_tup g1 r1)⟩⟩
    · cases e
  · cases e
theorem rangeL_len (lo : Int) (n : Nat) : (rangeL lo n).length = n := by unfold rangeL; rw [List.length_map, List.length_range]
theorem rangeL_get {lo : Int} {n i : Nat} {d : D} (h : (rangeL lo n)[i]? = some d) : i < n ∧ d = .int (lo + (i : Nat)) := by
  unfold rangeL at h
  rw [List.getElem?_map] at h
  by_cases hi : i < n
  · rw [List.getElem?_range hi] at h
    cases h
    exact ⟨hi, rfl⟩
  · rw [List.getElem?_eq_none (by rw [List.length_range]; omega)] at h
    cases h
theorem isIt_range {lo : Int} {n : Nat} : IsIt K F (Itr lo n) (rangeL lo n) := fun i H sub => by
  refine ⟨fun hl => ?_, fun d hd => ?_⟩
  · rw [rangeL_len] at hl; exact hl
  · obtain ⟨hi, rfl⟩ := rangeL_get hd
    refine ⟨hi, fun x H' hy => ?_⟩
    obtain ⟨e1, e2⟩ := hy
    subst e2
    exact .inl ⟨e1, .int _⟩
theorem si_r1 {ta : TE} {fa : E W.S} (ha : SemE K W ta fa) : SemI K W (iRng1 (tCons ta tNil)) (iR1 fa) := fun B F0 σ H F ρ s R ds ρ' s' e Q q => by
  unfold iR1 at e
  split at e
  · rename_i j ρ1 s1 h1
    split at e
    · rename_i hj
      cases e
      refine ha B F0 σ H F ρ s R _ _ _ h1 _ fun v H1 F1 R1 sub1 d1 => ?_
      cases d1
      exact ⟨j, rfl, by omega, by omega, q _ H1 F1 R1 sub1 (by rw [rangeL_len]; exact lim_size (by show j.toNat ≤ 16777216; omega)) isIt_range⟩
    · cases e
  · cases e
theorem si_r2 {ta tb : TE} {fa fb : E W.S} (ha : SemE K W ta fa) (hb : SemE K W tb fb) : SemI K W (iRng2 (tCons ta (tCons tb tNil))) (iR2 fa fb) := fun B F0 σ H F ρ s R ds ρ' s' e Q q => by
  unfold iR2 at e
  split at e
  · rename_i i ρ1 s1 h1
    split at e
    · rename_i j ρ2 s2 h2
      split at e
      · rename_i hj
        cases e
        refine ha B F0 σ H F ρ s R _ _ _ h1 _ fun v H1 F1 R1 sub1 d1 => ?_
        refine hb B F0 σ H1 F1 _ _ R1 _ _ _ h2 _ fun w H2 F2 R2 sub2 d2 => ?_
        cases d1
        cases d2
        exact ⟨i, j, rfl, ⟨by omega, by omega, by omega, by omega⟩, q _ H2 F2 R2 (sub1.trans sub2) (by rw [rangeL_len]; exact lim_size (by show (j - i).toNat ≤ 16777216; omega)) isIt_range⟩
      · cases e
    · cases e
  · cases e

/-! ### comprehensions -/
theorem wipe_at (σ : L2.St) (l : List Nat) (i : Nat) : (wipe σ l)[i]? = if i ∈ l then (if i < σ.length then some none else none) else σ[i]? := by
  induction l with
  | nil => rfl
  | cons v l ih =>
    unfold wipe
    by_cases e : v = i
    · subst e
      rw [if_pos List.mem_cons_self, List.getElem?_set_self', ih]
      by_cases hl : v < σ.length
      · rw [if_pos hl]
        split
        · rfl
        · rw [List.getElem?_eq_getElem hl]; rfl
      · rw [if_neg hl]
        split
        · rfl
        · rw [List.getElem?_eq_none (by omega)]; rfl
    · rw [List.getElem?_set_ne e, ih]
      by_cases hm : i ∈ l
      · rw [if_pos hm, if_pos (List.mem_cons_of_mem _ hm)]
      · rw [if_neg hm, if_neg (fun z => (List.mem_cons.mp z).elim (fun q => e q.symm) hm)]
theorem wipe_eq {l : List Nat} (hl : σ'.length = σ.length) (h : ∀ i, i ∉ l → σ'[i]? = σ[i]?) : wipe σ' l = wipe σ l := by
  apply List.ext_getElem?
  intro i
  rw [wipe_at, wipe_at, hl]
  by_cases hm : i ∈ l
  · rw [if_pos hm, if_pos hm]
  · rw [if_neg hm, if_neg hm]; exact h i hm
theorem wipeE_at : ∀ (l : List Nat) (ρ : Env) (i : Nat), (wipeE l ρ)[i]? = if i ∈ l then (if i < ρ.length then some none else none) else ρ[i]?
  | [], ρ, i => rfl
  | v :: l, ρ, i => by
    unfold wipeE
    rw [wipeE_at l, List.length_set]
    by_cases hm : i ∈ l
    · rw [if_pos hm, if_pos (List.mem_cons_of_mem _ hm)]
    · rw [if_neg hm]
      by_cases e : v = i
      · subst e
        rw [if_pos List.mem_cons_self]
        by_cases hl : v < ρ.length
        · rw [if_pos hl, List.getElem?_set_self hl]
        · rw [if_neg hl, List.getElem?_eq_none (by rw [List.length_set]; omega)]
      · rw [if_neg (fun z => (List.mem_cons.mp z).elim (fun q => e q.symm) hm), List.getElem?_set_ne e]
theorem wipeE_len : ∀ (l : List Nat) (ρ : Env), (wipeE l ρ).length = ρ.length
  | [], ρ => rfl
  | v :: l, ρ => by unfold wipeE; rw [wipeE_len l, List.length_set]
theorem backE_len (ρ0 : Env) : ∀ (l : List Nat) (ρ : Env), (backE ρ0 l ρ).length = ρ.length
  | [], ρ => rfl
  | v :: l, ρ => by unfold backE; rw [backE_len ρ0 l, List.length_set]
theorem backE_at (ρ0 : Env) : ∀ (l : List Nat) (ρ : Env) (i : Nat), (backE ρ0 l ρ)[i]? = if i ∈ l then (if i < ρ.length then some (ρ0.getD i none) else none) else ρ[i]?
  | [], ρ, i => rfl
  | v :: l, ρ, i => by
    unfold backE
    rw [backE_at ρ0 l, List.length_set]
    by_cases hm : i ∈ l
    · rw [if_pos hm, if_pos (List.mem_cons_of_mem _ hm)]
    · rw [if_neg hm]
      by_cases e : v = i
      · subst e
        rw [if_pos List.mem_cons_self]
        by_cases hl : v < ρ.length
        · rw [if_pos hl, List.getElem?_set_self hl]
        · rw [if_neg hl, List.getElem?_eq_none (by rw [List.length_set]; omega)]
      · rw [if_neg (fun z => (List.mem_cons.mp z).elim (fun q => e q.symm) hm), List.getElem?_set_ne e]
/-- other slots, where what is known stays known -/
theorem Rel.recast (R : Rel K W B F0 σ H F ρ s) (hl : σ'.length = ρ'.length) (h : ∀ (i : Nat) (x : Sl), ρ'[i]? = some (some x) → ρ[i]? = some (some x) ∧ σ'[i]? = σ[i]?) : Rel K W B F0 σ' H F ρ' s :=
  ⟨R.bh, R.fh, R.ff, R.fb, R.of, R.ob, R.st, hl, fun i d e => by
    obtain ⟨h1, h2⟩ := h i _ e
    rw [h2]; exact R.sl.sh i d h1, fun i d e => by
    obtain ⟨h1, h2⟩ := h i _ e
    rw [h2]; exact R.sl.ow i d h1, fun i j d e a h1 h2 g1 g2 => by
    obtain ⟨k1, k2⟩ := h i _ h1
    obtain ⟨k3, k4⟩ := h j _ h2
    rw [k2] at g1
    rw [k4] at g2
    exact R.sl.dj i j d e a k1 k3 g1 g2⟩
/-- ahead of a block: its own names are empty -/
theorem Rel.wiped (R : Rel K W B F0 σ H F ρ s) (l : List Nat) : Rel K W B F0 (wipe σ l) H F (wipeE l ρ) s :=
  R.recast (by rw [wipe_length, wipeE_len]; exact R.len) fun i x e => by
    rw [wipeE_at] at e
    rw [wipe_at]
    by_cases hm : i ∈ l
    · rw [if_pos hm] at e
      split at e <;> cases e
    · rw [if_neg hm] at e
      rw [if_neg hm]
      exact ⟨e, rfl⟩
theorem notOw_sh {x : Sl} (h : notOw ρ i = true) (e : ρ[i]? = some (some x)) : ∃ d, x = Sl.sh d := by
  cases x with
  | sh d => exact ⟨d, rfl⟩
  | ow d =>
    unfold notOw at h
    rw [e] at h
    cases h
/-- behind a block: its own names are again what they were -/
theorem Rel.back {Hi Fi : Hp} {ρ0 : Env} {s0 : W.S} {l : List Nat} (R0 : Rel K W B F0 σ Hi Fi ρ0 s0) (R : Rel K W B F0 σ' H F ρ s) (sub : Sub Fi F) (hl : σ'.length = σ.length) (ho : ∀ i, i ∉ l → σ'[i]? = σ[i]?) (hn : l.all (notOw ρ0) = true) :
    Rel K W B F0 σ H F (backE ρ0 l ρ) s := by
  have get : ∀ (i : Nat) (x : Sl), (backE ρ0 l ρ)[i]? = some (some x) → (i ∈ l ∧ ρ0[i]? = some (some x)) ∨ (i ∉ l ∧ ρ[i]? = some (some x)) := fun i x e => by
    rw [backE_at] at e
    by_cases hm : i ∈ l
    · rw [if_pos hm] at e
      split at e
      · left
        refine ⟨hm, ?_⟩
        rw [List.getD_eq_getElem?_getD] at e
        cases q : ρ0[i]? with
        | none => rw [q] at e; cases e
        | some y => rw [q] at e; simpa using e
      · cases e
    · rw [if_neg hm] at e
      exact .inr ⟨hm, e⟩
  have sh0 : ∀ (i : Nat) (x : Sl), i ∈ l → ρ0[i]? = some (some x) → ∃ d, x = Sl.sh d := fun i x hm e => notOw_sh (List.all_eq_true.mp hn i hm) e
  refine ⟨R.bh, R.fh, R.ff, R.fb, R.of, R.ob, R.st, by rw [backE_len, ← R.len]; exact hl.symm, fun i d e => ?_, fun i d e => ?_, fun i j d f a h1 h2 g1 g2 => ?_⟩
  · rcases get i _ e with ⟨hm, q⟩ | ⟨hm, q⟩
    · obtain ⟨v, h1, h2⟩ := R0.sl.sh i d q
      exact ⟨v, h1, h2.mono sub⟩
    · rw [← ho i hm]; exact R.sl.sh i d q
  · rcases get i _ e with ⟨hm, q⟩ | ⟨hm, q⟩
    · obtain ⟨d', hd⟩ := sh0 i _ hm q
      cases hd
    · rw [← ho i hm]; exact R.sl.ow i d q
  · rcases get i _ h1 with ⟨hm, q⟩ | ⟨hm, q⟩
    · obtain ⟨d', hd⟩ := sh0 i _ hm q
      cases hd
    · rcases get j _ h2 with ⟨hm', q'⟩ | ⟨hm', q'⟩
      · obtain ⟨d', hd⟩ := sh0 j _ hm' q'
        cases hd
      · rw [← ho i hm] at g1
        rw [← ho j hm'] at g2
        exact R.sl.dj i j d f a q q' g1 g2
/-- what is held by nothing is written -/
theorem Rel.writeB {p : Addr} {o o' : HO} (R : Rel K W (upd B p o) F0 σ H F ρ s) (hF : F p = none) : Rel K W (upd B p o') F0 σ (upd H p o') F ρ s := by
  have np : ∀ x, W.fp x → x ≠ p := fun x hx e => by
    have := R.ob x hx
    rw [e, upd_same] at this; cases this
  have bb : ∀ x, x ≠ p → upd B p o' x = upd B p o x := fun x hx => by rw [upd_ne hx, upd_ne hx]
  refine ⟨fun x u e => ?_, R.fh.updR hF, R.ff, fun x hx => ?_, R.of, fun x hx => ?_, W.stay R.st fun x hx => upd_ne (np x hx), R.len, R.sl.grow (Sub.refl F) fun i d a _ _ hB hFa hH => ?_⟩
  · by_cases z : x = p
    · subst z; rw [upd_same] at e ⊢; exact e
    · rw [bb x z] at e; rw [upd_ne z]; exact R.bh x u e
  · by_cases z : x = p
    · subst z; exact absurd hF hx
    · rw [bb x z]; exact R.fb x hx
  · rw [bb x (np x hx)]; exact R.ob x hx
  · have ne : a ≠ p := fun e => by rw [e, upd_same] at hB; cases hB
    exact ⟨by rw [bb a ne]; exact hB, hFa, upd_ne ne⟩
def PtsE (K : PySem.W.Frag) (W : Wd) (tt : TT) (ft : T W.S) : Prop := SemT K W tt ft
theorem sn_lc {wi : TI} {g : TG} {tt : TT} {te : TE} {fi : I W.S} {tgt : Tg} {ft : T W.S} {fe : E W.S} {ws own : List Nat} (hi : SemI K W wi fi) (hg : SemG K W g tgt ws) (ht : SemT K W tt ft) (he : SemE K W te fe) (hw : ∀ i ∈ ws, i ∈ own) :
    SemN K W (tLc wi g tt te own) (eLc fi tgt ft fe own) := fun B F0 σ H F ρ s R d ρ' s' e Q q => by
  unfold eLc at e
  split at e
  · rename_i ds ρ1 s1 h1
    split at e
    · rename_i hn
      split at e
      · rename_i acc ρ2 s2 h2
        cases e
        refine hi B F0 σ H F ρ s R _ _ _ h1 _ fun J H1 F1 R1 sub1 hds hJ => ?_
        intro D hD
        have hBD : B D = none := R1.bh.none hD
        have hFD : F1 D = none := R1.fh.none hD
        have hF0D : F0 D = none := R1.ff.none hFD
        refine ⟨fun i m H2 => ∃ F2 ρa sa accV accD, Rel K W (upd B D (.lst accV)) F0 σ H2 F2 ρa sa ∧ Sub F1 F2 ∧ m = ds.length - i ∧ i ≤ ds.length ∧ accV.length ≤ i ∧ Dvs K F2 accV accD ∧ lcLoop tgt ft fe own ρ1 (ds.drop i) accD ρa sa = some (acc, ρ', s'),
          ⟨ds.length, F1, ρ1, s1, [], [], R1.keep hD, Sub.refl F1, by omega, by omega, by simp, .nil, h2⟩, ?_⟩
        rintro i m H2 ⟨F2, ρa, sa, accV, accD, R2, sub2, rfl, hil, hav, hva, hl⟩
        have hF2D : F2 D = none := by
          cases z : F2 D with
          | none => rfl
          | some o =>
            rcases R2.fb D (by rw [z]; exact fun w => nomatch w) with y | y
            · exact absurd hF0D y
            · rw [upd_same] at y; cases y
        obtain ⟨js, jg⟩ := (hJ.mono sub2) i H2 R2.fh
        by_cases hlt : i < ds.length
        · right
          have hdi : ds[i]? = some ds[i] := List.getElem?_eq_getElem hlt
          obtain ⟨g1, g2⟩ := jg _ hdi
          refine ⟨g1, fun H3 => ∃ F3 ρb sb accV' accD', Rel K W (upd B D (.lst accV')) F0 σ H3 F3 ρb sb ∧ Sub F2 F3 ∧ accV'.length ≤ i + 1 ∧ Dvs K F3 accV' accD' ∧ lcLoop tgt ft fe own ρ1 (ds.drop (i + 1)) accD' ρb sb = some (acc, ρ', s'), ?_, fun x H3 hy => ?_⟩
          · rintro H3 ⟨F3, ρb, sb, accV', accD', R3, sub3, h3, h4, h5⟩
            exact ⟨ds.length - (i + 1), by omega, F3, ρb, sb, accV', accD', R3, sub2.trans sub3, rfl, hlt, h3, h4, h5⟩
          · rw [List.drop_eq_getElem_cons hlt] at hl
            unfold lcLoop at hl
            -- the turn's item
            have : ∃ F3, Rel K W (upd B D (.lst accV)) F0 σ H3 F3 ρa sa ∧ Sub F2 F3 ∧ Dv K F3 x ds[i] := by
              rcases g2 x H3 hy with ⟨rfl, y2⟩ | ⟨T, xs, t1, rfl, t3⟩
              · exact ⟨F2, R2, Sub.refl F2, y2⟩
              · exact ⟨_, R2.new t1, Sub.upd (R2.fh.none t1), t3⟩
            obtain ⟨F3, R3, sub3, hx⟩ := this
            split at hl
            · rename_i ρt hρt
              refine hg _ F0 _ H3 F3 _ sa (R3.wiped own) x _ _ hx hρt _ fun σ2 G => ?_
              have hout : ∀ j, j ∉ own → σ2[j]? = σ[j]? := fun j hj => by
                rw [G.out j (fun z => hj (hw j z)), wipe_at, if_neg hj]
              have hlen : σ2.length = σ.length := by rw [G.len, wipe_length]
              refine ⟨wipe_eq hlen hout, ?_⟩
              split at hl
              · rename_i ρc sc hc
                split at hl
                · rename_i y ρd sd hd
                  refine ht _ F0 σ2 H3 F3 _ _ G.rel _ _ _ hc _ fun H4 F4 R4 sub4 => ?_
                  rw [if_pos rfl]
                  refine he _ F0 σ2 H4 F4 _ _ R4 _ _ _ hd _ fun v H5 F5 R5 sub5 hv => ?_
                  have hz : accV.length < sizeLine := by
                    have := sizeLine_eq
                    omega
                  have hF5D : F5 D = none := by
                    cases z : F5 D with
                    | none => rfl
                    | some o =>
                      rcases R5.fb D (by rw [z]; exact fun w => nomatch w) with y | y
                      · exact absurd hF0D y
                      · rw [upd_same] at y; cases y
                  refine ⟨accV, R5.bh D _ upd_same, hz, F5, backE ρ1 own ρd, sd, accV ++ [v], accD ++ [y], ?_, sub3.trans (sub4.trans sub5), by rw [List.length_append]; simp; omega, (hva.mono (sub3.trans (sub4.trans sub5))).append (.cons hv .nil), hl⟩
                  have Rb : Rel K W (upd B D (.lst accV)) F0 σ H5 F5 (backE ρ1 own ρd) sd := by
                    refine Rel.back (Hi := upd H1 D (.lst accV)) (Fi := F1) (ρ0 := ρ1) (s0 := s1) (R1.keep hD) R5 (sub2.trans (sub3.trans (sub4.trans sub5))) hlen hout hn
                  exact Rb.writeB hF5D
                · cases hl
              · rename_i ρc sc hc
                refine ht _ F0 σ2 H3 F3 _ _ G.rel _ _ _ hc _ fun H4 F4 R4 sub4 => ?_
                rw [if_neg Bool.false_ne_true]
                refine ⟨F4, backE ρ1 own ρc, sc, accV, accD, ?_, sub3.trans sub4, by omega, hva.mono (sub3.trans sub4), hl⟩
                exact Rel.back (Hi := upd H1 D (.lst accV)) (Fi := F1) (ρ0 := ρ1) (s0 := s1) (R1.keep hD) R4 (sub2.trans (sub3.trans sub4)) hlen hout hn
              · cases hl
            · cases hl
        · left
          have hi' : i = ds.length := by omega
          subst hi'
          rw [List.drop_length] at hl
          unfold lcLoop at hl
          cases hl
          refine ⟨js (Nat.le_refl _), ?_⟩
          exact q D accV acc H2 F2 rfl R2 hBD hF2D (sub1.trans sub2) (Nat.le_trans hav (Nat.le_trans hil hds)) hva
      · cases e
    · cases e
  · cases e
end
end Fw

/-! ### statements -/
namespace Fw
open PySem PySem.Spec PyProof.Rows L2
/-- what is wanted behind a statement's outcome -/
def EndsOk (K : PySem.W.Frag) (W : Wd) (B F0 F : Hp) (Dd : Ends) : Ctl × Env × W.S → Prop
  | (.nx, ρ, s) => ∀ σ' H' F', Rel K W B F0 σ' H' F' ρ s → Sub F F' → Dd.nx σ' H'
  | (.bk, ρ, s) => ∀ σ' H' F', Rel K W B F0 σ' H' F' ρ s → Sub F F' → Dd.bk σ' H'
  | (.ct, ρ, s) => ∀ σ' H' F', Rel K W B F0 σ' H' F' ρ s → Sub F F' → Dd.ct σ' H'
  | (.rt d, _, s) => ∀ v H' F', Rel K W B F0 [] H' F' [] s → Sub F F' → Dv K F' v d → Dd.rt v H'
theorem EndsOk.mono {K : PySem.W.Frag} {W : Wd} {B F0 F F' : Hp} {Dd : Ends} {o : Ctl × Env × W.S} (h : EndsOk K W B F0 F Dd o) (e : Sub F F') : EndsOk K W B F0 F' Dd o := by
  obtain ⟨c, ρ, s⟩ := o
  cases c with
  | nx => exact fun σ' H' F2 R sub => h σ' H' F2 R (e.trans sub)
  | bk => exact fun σ' H' F2 R sub => h σ' H' F2 R (e.trans sub)
  | ct => exact fun σ' H' F2 R sub => h σ' H' F2 R (e.trans sub)
  | rt d => exact fun v H' F2 R sub => h v H' F2 R (e.trans sub)
def SemS (K : PySem.W.Frag) (W : Wd) (t : TS) (f : C W.S) : Prop := ∀ B F0 σ H F ρ (s : W.S), Rel K W B F0 σ H F ρ s → ∀ o, f ρ s = some o → ∀ Dd : Ends, EndsOk K W B F0 F Dd o → t Dd σ H
section
variable {K : PySem.W.Frag} {W : Wd} {ta te : TE} {fa : E W.S} {t u : TS} {ft fu : C W.S} {tt : TT} {fc : T W.S} {g : TG} {tgt : Tg} {ws : List Nat}
theorem ss_nx : SemS K W tNext sNx := fun B F0 σ H F ρ s R o e Dd q => by
  cases e
  exact q σ H F R (Sub.refl F)
theorem ss_bk : SemS K W tBreak sBk := fun B F0 σ H F ρ s R o e Dd q => by
  cases e
  exact q σ H F R (Sub.refl F)
theorem ss_ct : SemS K W tCont sCt := fun B F0 σ H F ρ s R o e Dd q => by
  cases e
  exact q σ H F R (Sub.refl F)
theorem ss_seq (h1 : SemS K W t ft) (h2 : SemS K W u fu) : SemS K W (tSeq t u) (sSeq ft fu) := fun B F0 σ H F ρ s R o e Dd q => by
  unfold sSeq at e
  split at e
  · rename_i ρ1 s1 k1
    refine h1 B F0 σ H F ρ s R _ k1 { Dd with nx := u Dd } fun σ' H' F' R' sub => ?_
    exact h2 B F0 σ' H' F' ρ1 s1 R' o e Dd (q.mono sub)
  · rename_i c ρ1 s1 hc k1
    cases e
    refine h1 B F0 σ H F ρ s R _ k1 { Dd with nx := u Dd } ?_
    cases c with
    | nx => exact absurd rfl hc
    | bk => exact q
    | ct => exact q
    | rt d => exact q
  · cases e
theorem ss_asg (ha : SemE K W ta fa) (hg : SemG K W g tgt ws) : SemS K W (tAsg ta g) (sAsg fa tgt) := fun B F0 σ H F ρ s R o e Dd q => by
  unfold sAsg at e
  split at e
  · rename_i x ρ1 s1 k1
    split at e
    · rename_i ρ2 k2
      cases e
      refine ha B F0 σ H F ρ s R _ _ _ k1 _ fun v H1 F1 R1 sub1 d1 => ?_
      exact hg B F0 σ H1 F1 _ _ R1 v x _ d1 k2 _ fun σ' G => q σ' H1 F1 G.rel sub1
    · cases e
  · cases e
theorem ss_newD (ha : SemND K W ta fa) {i : Nat} : SemS K W (tAsg ta (gName i)) (sNew fa i) := fun B F0 σ H F ρ s R o e Dd q => by
  unfold sNew at e
  split at e
  · rename_i x ρ1 s1 k1
    cases e
    exact ha B F0 σ H F ρ s R _ _ _ k1 _ fun p o H1 F1 R1 hB hF sub1 hv => q _ H1 F1 (R1.setOwO hB hF hv) sub1
  · cases e
theorem ss_new (ha : SemN K W ta fa) {i : Nat} : SemS K W (tAsg ta (gName i)) (sNew fa i) := ss_newD ha.d
theorem ss_drop (ha : SemE K W ta fa) : SemS K W (tDrop ta) (sDrop fa) := fun B F0 σ H F ρ s R o e Dd q => by
  unfold sDrop at e
  split at e
  · rename_i x ρ1 s1 k1
    cases e
    exact ha B F0 σ H F ρ s R _ _ _ k1 _ fun v H1 F1 R1 sub1 d1 => q σ H1 F1 R1 sub1
  · cases e
theorem ss_ret (ha : SemE K W ta fa) : SemS K W (tRet ta) (sRet fa) := fun B F0 σ H F ρ s R o e Dd q => by
  unfold sRet at e
  split at e
  · rename_i x ρ1 s1 k1
    cases e
    exact ha B F0 σ H F ρ s R _ _ _ k1 _ fun v H1 F1 R1 sub1 d1 => q v H1 F1 R1.nil sub1 d1
  · cases e
theorem ss_retN : SemS K W tRetN (sRet (eC .non)) := fun B F0 σ H F ρ s R o e Dd q => by
  cases e
  exact q _ H F R.nil (Sub.refl F) .non
theorem ss_if (hc : SemT K W tt fc) (h1 : SemS K W t ft) (h2 : SemS K W u fu) : SemS K W (tIfS tt t u) (sIf fc ft fu) := fun B F0 σ H F ρ s R o e Dd q => by
  unfold sIf at e
  split at e
  · rename_i ρ1 s1 k1
    refine hc B F0 σ H F ρ s R _ _ _ k1 _ fun H1 F1 R1 sub1 => ?_
    rw [if_pos rfl]
    exact h1 B F0 σ H1 F1 _ _ R1 o e Dd (q.mono sub1)
  · rename_i ρ1 s1 k1
    refine hc B F0 σ H F ρ s R _ _ _ k1 _ fun H1 F1 R1 sub1 => ?_
    rw [if_neg Bool.false_ne_true]
    exact h2 B F0 σ H1 F1 _ _ R1 o e Dd (q.mono sub1)
  · cases e
/-- x[k] = e -/
theorem ss_setIx (ha : SemE K W ta fa) {tk : TE} {fk : E W.S} (hk : SemE K W tk fk) {i : Nat} : SemS K W (tAsg ta (gSub (tVar i) tk rSetL)) (sSetIx fa i fk) := fun B F0 σ H F ρ s R o e Dd q => by
  unfold sSetIx at e
  split at e
  · rename_i x ρ1 s1 k1
    split at e
    · rename_i ds0 hx0
      split at e
      · rename_i k ρ2 s2 k2
        split at e
        · rename_i ds hx
          split at e
          · rename_i j hj
            cases e
            refine ha B F0 σ H F ρ s R _ _ _ k1 _ fun v H1 F1 R1 sub1 d1 => ?_
            obtain ⟨a, g1, _⟩ := R1.sl.ow i _ hx0
            refine ⟨_, g1, hk B F0 σ H1 F1 _ _ R1 _ _ _ k2 _ fun w H2 F2 R2 sub2 d2 => ?_⟩
            obtain ⟨a', m1, _, _, _, hh1⟩ := R2.sl.ow i _ hx
            obtain ⟨vs, ds', e1, m5, m6, m7⟩ := hh1.l
            cases e1
            rw [g1] at m1
            cases m1
            cases d2
            rw [← m7.length] at hj
            refine ⟨a, vs, k, j, rfl, rfl, m5, hj, ?_⟩
            exact q _ _ F2 (R2.write hx g1 (by rw [List.length_set]; exact m6) (m7.set (d1.mono sub2) j)) (sub1.trans sub2)
          · cases e
        · cases e
      · cases e
    · cases e
  · cases e
theorem ss_for {wi : TI} {fi : I W.S} {dead : List Nat} (hi : SemI K W wi fi) (hg : SemG K W g tgt ws) (hb : SemS K W t ft) : SemS K W (tFor wi g t) (sFor fi tgt ft dead) := fun B F0 σ H F ρ s R o e Dd q => by
  unfold sFor at e
  split at e
  · rename_i ds ρ1 s1 k1
    refine hi B F0 σ H F ρ s R _ _ _ k1 _ fun J H1 F1 R1 sub1 _ hJ => ?_
    refine ⟨fun i m σ2 H2 => ∃ F2 ρa sa, Rel K W B F0 σ2 H2 F2 ρa sa ∧ Sub F1 F2 ∧ m = ds.length - i ∧ i ≤ ds.length ∧ forL tgt ft dead (ds.drop i) ρa sa = some o,
      ⟨ds.length, F1, _, s1, R1.kills dead, Sub.refl F1, by omega, by omega, e⟩, ?_⟩
    rintro i m σ2 H2 ⟨F2, ρa, sa, R2, sub2, rfl, hil, hl⟩
    obtain ⟨js, jg⟩ := (hJ.mono sub2) i H2 R2.fh
    by_cases hlt : i < ds.length
    · right
      have hdi : ds[i]? = some ds[i] := List.getElem?_eq_getElem hlt
      obtain ⟨g1, g2⟩ := jg _ hdi
      rw [List.drop_eq_getElem_cons hlt] at hl
      unfold forL at hl
      refine ⟨g1, fun σ3 H3 => ∃ F3 ρb sb, Rel K W B F0 σ3 H3 F3 ρb sb ∧ Sub F2 F3 ∧ forL tgt ft dead (ds.drop (i + 1)) ρb sb = some o, ?_, fun x H3 hy => ?_⟩
      · rintro σ3 H3 ⟨F3, ρb, sb, R3, sub3, h3⟩
        exact ⟨ds.length - (i + 1), by omega, F3, ρb, sb, R3, sub2.trans sub3, rfl, hlt, h3⟩
      · have : ∃ F3, Rel K W B F0 σ2 H3 F3 ρa sa ∧ Sub F2 F3 ∧ Dv K F3 x ds[i] := by
          rcases g2 x H3 hy with ⟨rfl, y2⟩ | ⟨T, xs, t1, rfl, t3⟩
          · exact ⟨F2, R2, Sub.refl F2, y2⟩
          · exact ⟨_, R2.new t1, Sub.upd (R2.fh.none t1), t3⟩
        obtain ⟨F3, R3, sub3, hx⟩ := this
        split at hl
        · rename_i ρt hρt
          refine hg B F0 σ2 H3 F3 _ sa R3 x _ _ hx hρt _ fun σ4 G => ?_
          split at hl
          · rename_i ρb sb hb2
            refine hb B F0 σ4 H3 F3 _ _ G.rel _ hb2 _ fun σ5 H5 F5 R5 sub5 => ?_
            exact ⟨F5, _, sb, R5.kills dead, sub3.trans sub5, hl⟩
          · rename_i ρb sb hb2
            refine hb B F0 σ4 H3 F3 _ _ G.rel _ hb2 _ fun σ5 H5 F5 R5 sub5 => ?_
            exact ⟨F5, _, sb, R5.kills dead, sub3.trans sub5, hl⟩
          · rename_i ρb sb hb2
            cases hl
            refine hb B F0 σ4 H3 F3 _ _ G.rel _ hb2 _ fun σ5 H5 F5 R5 sub5 => ?_
            exact q σ5 H5 F5 R5 (sub1.trans (sub2.trans (sub3.trans sub5)))
          · rename_i d ρb sb hb2
            cases hl
            refine hb B F0 σ4 H3 F3 _ _ G.rel _ hb2 _ fun v5 H5 F5 R5 sub5 => ?_
            exact q v5 H5 F5 R5 (sub1.trans (sub2.trans (sub3.trans sub5)))
          · cases hl
        · cases hl
    · left
      have hi' : i = ds.length := by omega
      subst hi'
      rw [List.drop_length] at hl
      unfold forL at hl
      cases hl
      exact ⟨js (Nat.le_refl _), q σ2 H2 F2 R2 (sub1.trans sub2)⟩
  · cases e
theorem ss_wh {fuel : Nat} {dead : List Nat} (hc : SemT K W tt fc) (hb : SemS K W t ft) : SemS K W (tWhile tt t) (sWh fuel fc ft dead) := fun B F0 σ H F ρ s R o e Dd q => by
  unfold sWh at e
  refine ⟨fun m σ2 H2 => ∃ F2 ρa sa, Rel K W B F0 σ2 H2 F2 ρa sa ∧ Sub F F2 ∧ whL fc ft dead m ρa sa = some o, ⟨fuel, F, _, s, R.kills dead, Sub.refl F, e⟩, ?_⟩
  rintro m σ2 H2 ⟨F2, ρa, sa, R2, sub2, hl⟩
  cases m with
  | zero => cases hl
  | succ m =>
    unfold whL at hl
    split at hl
    · rename_i ρ1 s1 k1
      refine hc B F0 σ2 H2 F2 _ _ R2 _ _ _ k1 _ fun H3 F3 R3 sub3 => ?_
      rw [if_pos rfl]
      refine ⟨fun σ4 H4 => ∃ F4 ρb sb, Rel K W B F0 σ4 H4 F4 ρb sb ∧ Sub F3 F4 ∧ whL fc ft dead m ρb sb = some o, ?_, ?_⟩
      · rintro σ4 H4 ⟨F4, ρb, sb, R4, sub4, h4⟩
        exact ⟨m, Nat.lt_succ_self m, F4, ρb, sb, R4, sub2.trans (sub3.trans sub4), h4⟩
      · split at hl
        · rename_i ρb sb hb2
          refine hb B F0 σ2 H3 F3 _ _ R3 _ hb2 _ fun σ5 H5 F5 R5 sub5 => ?_
          exact ⟨F5, _, sb, R5.kills dead, sub5, hl⟩
        · rename_i ρb sb hb2
          refine hb B F0 σ2 H3 F3 _ _ R3 _ hb2 _ fun σ5 H5 F5 R5 sub5 => ?_
          exact ⟨F5, _, sb, R5.kills dead, sub5, hl⟩
        · rename_i ρb sb hb2
          cases hl
          refine hb B F0 σ2 H3 F3 _ _ R3 _ hb2 _ fun σ5 H5 F5 R5 sub5 => ?_
          exact q σ5 H5 F5 R5 (sub2.trans (sub3.trans sub5))
        · rename_i d ρb sb hb2
          cases hl
          refine hb B F0 σ2 H3 F3 _ _ R3 _ hb2 _ fun v5 H5 F5 R5 sub5 => ?_
          exact q v5 H5 F5 R5 (sub2.trans (sub3.trans sub5))
        · cases hl
    · rename_i ρ1 s1 k1
      cases hl
      refine hc B F0 σ2 H2 F2 _ _ R2 _ _ _ k1 _ fun H3 F3 R3 sub3 => ?_
      rw [if_neg Bool.false_ne_true]
      exact q σ2 H3 F3 R3 (sub2.trans sub3)
    · cases hl

/-! ### a def -/
theorem start_slots {N : List Str} {vs : List V} {ds : List D} {H F : Hp} {B : Hp} (r : Dvs K F vs ds) : Slots K W B F H (start N vs) (ds.map (fun d => some (Sl.sh d)) ++ List.replicate (N.length - ds.length) none) := by
  have get : ∀ (i : Nat) (x : Sl), (ds.map (fun d => some (Sl.sh d)) ++ List.replicate (N.length - ds.length) none)[i]? = some (some x) → ∃ d, x = Sl.sh d ∧ ds[i]? = some d := fun i x e => by
    by_cases hi : i < ds.length
    · rw [List.getElem?_append_left (by rw [List.length_map]; exact hi), List.getElem?_map, List.getElem?_eq_getElem hi] at e
      cases e
      exact ⟨_, rfl, List.getElem?_eq_getElem hi⟩
    · rw [List.getElem?_append_right (by rw [List.length_map]; omega), List.getElem?_replicate] at e
      split at e <;> cases e
  refine ⟨fun i d e => ?_, fun i d e => ?_, fun i j d f a e => ?_⟩
  · obtain ⟨d', e1, e2⟩ := get i _ e
    cases e1
    obtain ⟨v, h1, h2⟩ := r.get i e2
    refine ⟨v, ?_, h2⟩
    have hi : i < vs.length := (List.getElem?_eq_some_iff.mp h1).1
    unfold L2.start
    rw [List.getElem?_append_left (by rw [List.length_map]; exact hi), List.getElem?_map, h1]
    rfl
  · obtain ⟨d', e1, _⟩ := get i _ e
    cases e1
  · obtain ⟨d', e1, _⟩ := get i _ e
    cases e1
/-- the def's reading from its body's meaning -/
theorem def_sem {N : List Str} {np : Nat} {t : TS} {fb : C W.S} {vs : List V} {H : Hp} {Q : VK} {X : XK} (hb : SemS K W t fb) (hle : np ≤ N.length) (h : spF K W (runC np N.length fb) vs H Q X) : t { nx := fun _ H' => Q .non H', rt := Q } (start N vs) H := by
  obtain ⟨B, F0, F, s, ds, d, s', R, r, e, q⟩ := h
  unfold runC at e
  split at e
  · rename_i hnp
    have hR : Rel K W B F0 (start N vs) H F (ds.map (fun d => some (Sl.sh d)) ++ List.replicate (N.length - ds.length) none) s :=
      ⟨R.bh, R.fh, R.ff, R.fb, R.of, R.ob, R.st, by unfold L2.start; rw [List.length_append, List.length_append, List.length_map, List.length_map, r.length, List.length_replicate, List.length_replicate], start_slots r⟩
    rw [hnp] at hR
    split at e
    · rename_i d1 ρ1 s1 k
      cases e
      exact hb B F0 _ H F _ _ hR _ k _ fun v H' F' R' sub d' => q v H' F' R' sub d'
    · rename_i ρ1 s1 k
      cases e
      exact hb B F0 _ H F _ _ hR _ k _ fun σ' H' F' R' sub => q .non H' F' R'.nil sub .non
    · cases e
  · cases e
theorem spF_len {np n : Nat} {fb : C W.S} {vs : List V} {H : Hp} {Q : VK} {X : XK} (h : spF K W (runC np n fb) vs H Q X) : vs.length = np := by
  obtain ⟨B, F0, F, s, ds, d, s', R, r, e, q⟩ := h
  unfold runC at e
  split at e
  · rename_i hnp
    rw [r.length]; exact hnp
  · cases e
theorem spP_run {np n : Nat} {fb : C Unit} {vs : List V} {H : Hp} {Q : VK} {X : XK} (h : spP K (runP np n fb) vs H Q X) : spF K W0 (runC np n fb) vs H Q X := by
  obtain ⟨B, F0, F, s, ds, d, s', R, r, e, q⟩ := h
  refine ⟨B, F0, F, s, ds, d, s', R, r, ?_, q⟩
  have e' : ((runC np n fb ds ()).map (·.1)).map (fun d => (d, ())) = some (d, s') := e
  show runC np n fb ds s = some (d, s')
  cases h : runC np n fb ds () with
  | none => rw [h] at e'; cases e'
  | some p => rw [h] at e'; exact e'
end
section
variable {P : Program} {w : World} {K : PySem.W.Frag} {mg : Str → Option Value} {base : Heap}
/-- a def that knows no outer state -/
theorem fn_p {x qual : Str} {st : Stmt} {f : Addr} {fd : FuncData} {N ps : List Str} {k : Nat} {fb : C Unit} (F : Fun K x qual st f fd) (S : FnScope N ps (defScope st)) (hle : ps.length ≤ N.length)
    (hbody : ∀ (cdv : Value) (A : Around) (outer : List PySem.Env) (s : Shared) (H : Hp) (E : XK), RoomG k (A.deeper (envOfC qual (defScope st) s.heap.objs.size f cdv)) →
      ∃ t, PSs (cxOf CX0 P w K mg base N qual (defScope st) f cdv A outer s H E).nox (defBody st) t ∧ SemS K W0 t fb) : FnG P w K mg base CX0 (k + 1) f fd ps (spP K (runP ps.length N.length fb)) :=
  fun_okG F S (fun vs H Q E h => spF_len (spP_run h)) fun cdv A outer s H vs Q E hr h => by
    obtain ⟨t, h1, h2⟩ := hbody cdv A outer s H E hr
    exact ⟨t, h1, def_sem h2 hle (spP_run h)⟩
/-- a def that knows one -/
theorem fn_f (Wf : Addr → Addr → Wd) (fbf : ∀ a c, C (Wf a c).S) {x qual : Str} {st : Stmt} {f : Addr} {fd : FuncData} {N ps : List Str} {k : Nat} (F : Fun K x qual st f fd) (S : FnScope N ps (defScope st)) (hle : ps.length ≤ N.length)
    (hbody : ∀ (cdv : Value) (A : Around) (outer : List PySem.Env) (s : Shared) (H : Hp) (E : XK), RoomG k (A.deeper (envOfC qual (defScope st) s.heap.objs.size f cdv)) →
      ∃ t, PSs (cxOf CX0 P w K mg base N qual (defScope st) f cdv A outer s H E).nox (defBody st) t ∧ ∀ a c, SemS K (Wf a c) t (fbf a c)) :
    FnG P w K mg base CX0 (k + 1) f fd ps (fun vs H Q E => ∃ a c, spF K (Wf a c) (runC ps.length N.length (fbf a c)) vs H Q E) :=
  fun_okG F S (fun vs H Q E ⟨a, c, h⟩ => spF_len h) fun cdv A outer s H vs Q E hr ⟨a, c, h⟩ => by
    obtain ⟨t, h1, h2⟩ := hbody cdv A outer s H E hr
    exact ⟨t, h1, def_sem (h2 a c) hle h⟩
end
end Fw

/-! ### further rules -/
namespace Fw
open PySem PySem.Spec PyProof.Rows L2
theorem room65 {k : Nat} {A : Around} (hr : RoomG k A) : A.units + 65 < cLine := by have := hr.un; omega
section
variable {K : PySem.W.Frag} {W : Wd} {ta tb : TE} {fa fb : E W.S}
theorem se_cb1 {r : List V → Hp → VK → Prop} {op : D → Option D} (h : SemB K W r (on1 op)) (ha : SemE K W ta fa) : SemE K W (tCB r (tCons ta tNil)) (e1 op fa) := fun B F0 σ H F ρ s R d ρ' s' e Q q => by
  unfold e1 at e
  split at e
  · rename_i x ρ1 s1 h1
    split at e
    · rename_i z h3
      cases e
      refine ha B F0 σ H F ρ s R x _ _ h1 _ fun v H1 F1 R1 sub1 d1 => ?_
      exact h B F0 σ H1 F1 _ _ R1 [v] [x] d (.cons d1 .nil) h3 Q fun v' H' F' R' sub' d' => q v' H' F' R' (sub1.trans sub') d'
    · cases e
  · cases e
theorem se_cb2 {r : List V → Hp → VK → Prop} {op : D → D → Option D} (h : SemB K W r (on2 op)) (ha : SemE K W ta fa) (hb : SemE K W tb fb) : SemE K W (tCB r (tCons ta (tCons tb tNil))) (e2 op fa fb) := fun B F0 σ H F ρ s R d ρ' s' e Q q => by
  unfold e2 at e
  split at e
  · rename_i x ρ1 s1 h1
    split at e
    · rename_i y ρ2 s2 h2
      split at e
      · rename_i z h3
        cases e
        refine ha B F0 σ H F ρ s R x _ _ h1 _ fun v H1 F1 R1 sub1 d1 => ?_
        refine hb B F0 σ H1 F1 _ _ R1 y _ _ h2 _ fun w H2 F2 R2 sub2 d2 => ?_
        exact h B F0 σ H2 F2 _ _ R2 [v, w] [x, y] d (.cons (d1.mono sub2) (.cons d2 .nil)) h3 Q fun v' H' F' R' sub' d' => q v' H' F' R' (sub1.trans (sub2.trans sub')) d'
      · cases e
    · cases e
  · cases e
theorem sn_b1 {r : List V → Hp → VK → Prop} {op : D → Option D} (h : SemBN K W r (on1 op)) (ha : SemE K W ta fa) : SemN K W (tCB r (tCons ta tNil)) (e1 op fa) := fun B F0 σ H F ρ s R d ρ' s' e Q q => by
  unfold e1 at e
  split at e
  · rename_i x ρ1 s1 h1
    split at e
    · rename_i z h3
      cases e
      refine ha B F0 σ H F ρ s R x _ _ h1 _ fun v H1 F1 R1 sub1 d1 => ?_
      exact h B F0 σ H1 F1 _ _ R1 [v] [x] d (.cons d1 .nil) h3 Q fun p vs ds H' F' hd R' hB hF sub' => q p vs ds H' F' hd R' hB hF (sub1.trans sub')
    · cases e
  · cases e
/-! isinstance -/
structure IsiOk (T : String) : Prop where
  non : kitB "NoneType" T = some (T == "NoneType")
  bl : kitB "bool" T = some (T == "bool" || T == "int")
  int : kitB "int" T = some (T == "int")
  str : kitB "str" T = some (T == "str")
  lst : kitB "list" T = some (T == "list")
  tup : kitB "tuple" T = some (T == "tuple")
  dct : kitB "dict" T = some (T == "dict")
theorem isi_int : IsiOk "int" := ⟨by decide +kernel, by decide +kernel, by decide +kernel, by decide +kernel, by decide +kernel, by decide +kernel, by decide +kernel⟩
theorem isi_bool : IsiOk "bool" := ⟨by decide +kernel, by decide +kernel, by decide +kernel, by decide +kernel, by decide +kernel, by decide +kernel, by decide +kernel⟩
theorem isi_tuple : IsiOk "tuple" := ⟨by decide +kernel, by decide +kernel, by decide +kernel, by decide +kernel, by decide +kernel, by decide +kernel, by decide +kernel⟩
theorem isi_list : IsiOk "list" := ⟨by decide +kernel, by decide +kernel, by decide +kernel, by decide +kernel, by decide +kernel, by decide +kernel, by decide +kernel⟩
theorem isi_str : IsiOk "str" := ⟨by decide +kernel, by decide +kernel, by decide +kernel, by decide +kernel, by decide +kernel, by decide +kernel, by decide +kernel⟩
theorem isi_dict : IsiOk "dict" := ⟨by decide +kernel, by decide +kernel, by decide +kernel, by decide +kernel, by decide +kernel, by decide +kernel, by decide +kernel⟩
theorem tyx_tup {F H : Hp} {a : Addr} {xs : List V} (h : SqT K F a xs) (sub : Sub F H) : TyX K H (.ref a) (.type "tuple") := by
  rcases h with (h | ⟨o, h⟩) | ⟨o, its, n, hk, hc, _⟩
  · exact .base (.tup (sub _ _ h))
  · exact .fTuple (sub _ _ h)
  · exact .kTuple hk hc
theorem se_isi {T : String} (I : IsiOk T) (ha : SemE K W ta fa) : SemE K W (tCB (rIsi K) (tCons ta (tCons (tC (.ty T)) tNil))) (e1 (dIsi T) fa) := fun B F0 σ H F ρ s R d ρ' s' e Q q => by
  unfold e1 at e
  split at e
  · rename_i x ρ1 s1 h1
    split at e
    · rename_i z h3
      cases e
      refine ha B F0 σ H F ρ s R x _ _ h1 _ fun v H1 F1 R1 sub1 d1 => ?_
      have fin : ∀ b, d = .bl b → Q (.bl b) H1 := fun b hb => by subst hb; exact q _ H1 F1 R1 sub1 (.bl b)
      cases d1 <;> simp only [dIsi, Option.some.injEq, reduceCtorEq] at h3
      · exact ⟨_, _, _, _, _, rfl, .ty T, .base .non, kit_ty I.non, fin _ h3.symm⟩
      · exact ⟨_, _, _, _, _, rfl, .ty T, .base (.bl _), kit_ty I.bl, fin _ h3.symm⟩
      · exact ⟨_, _, _, _, _, rfl, .ty T, .base (.int _), kit_ty I.int, fin _ h3.symm⟩
      · exact ⟨_, _, _, _, _, rfl, .ty T, .base (.str _), kit_ty I.str, fin _ h3.symm⟩
      · rename_i g1 z1 r1
        exact ⟨_, _, _, _, _, rfl, .ty T, .base (.lst (R1.fh _ _ g1)), kit_ty I.lst, fin _ h3.symm⟩
      · rename_i g1 z1 r1
        exact ⟨_, _, _, _, _, rfl, .ty T, tyx_tup g1 R1.fh, kit_ty I.tup, fin _ h3.symm⟩
      · rename_i g1 r1 l1
        exact ⟨_, _, _, _, _, rfl, .ty T, .base (.dK (R1.fh _ _ g1)), kit_ty I.dct, fin _ h3.symm⟩
    · cases e
  · cases e
theorem f2_isB : Flat2 K rIsB dIsB := fun F x y dx dy d hx hy e => by
  cases hx <;> cases hy <;> simp only [dIsB, Option.some.injEq, reduceCtorEq] at e
  subst e
  exact ⟨_, fun _ => .bl _, fun H Q _ q => ⟨_, _, rfl, rfl, q⟩⟩
/-! {} -/
theorem se_dnew : SemE K W tDNewK (eC (.dct [])) := fun B F0 σ H F ρ s R d ρ' s' e Q q => by
  cases e
  intro p hp
  exact q _ _ _ (R.new hp) (Sub.upd (R.fh.none hp)) (Dv.dct (ks := []) (xs := []) (ds := []) upd_same .nil rfl)
/-! list(range(n)) -/
theorem rgV_dv {F : Hp} (n : Nat) : Dvs K F ((List.range n).map fun i : Nat => V.int (0 + (i : Nat))) (rangeL 0 n) := by
  unfold rangeL
  induction (List.range n) with
  | nil => exact .nil
  | cons x r ih => exact .cons (.int _) ih
theorem sn_listR1 (ha : SemE K W ta fa) : SemN K W (tLstRg (tRg1 ta)) (eListR1 fa) := fun B F0 σ H F ρ s R d ρ' s' e Q q => by
  unfold eListR1 at e
  split at e
  · rename_i j ρ1 s1 h1
    split at e
    · rename_i hj
      cases e
      refine ha B F0 σ H F ρ s R _ _ _ h1 _ fun v H1 F1 R1 sub1 d1 => ?_
      cases d1
      refine ⟨j, rfl, ⟨by omega, by omega, by omega, by omega, by omega⟩, ?_⟩
      have e0 : (j - 0).toNat = j.toNat := by omega
      unfold rgV
      rw [e0]
      exact lay_new R1 (by rw [List.length_map, List.length_range]; exact lim_size (by show j.toNat ≤ 16777216; omega)) (rgV_dv j.toNat) fun p vs ds H' F' hd R' hB hF sub' => q p vs ds H' F' hd R' hB hF (sub1.trans sub')
    · cases e
  · cases e
/-! a, b = x, y -/
def Hold (K : PySem.W.Frag) (F : Hp) : Hp → List Sl → List V → Hp → Prop
  | B, [], [], B' => B' = B
  | B, .sh d :: r, v :: vs, B' => Dv K F v d ∧ Hold K F B r vs B'
  | B, .ow d :: r, v :: vs, B' => ∃ p o, v = .ref p ∧ B p = none ∧ F p = none ∧ OwO K F o d ∧ Hold K F (upd B p o) r vs B'
  | _, _, _, _ => False
theorem Hold.mono {F F' : Hp} (e : Sub F F') : ∀ {xs : List Sl} {vs : List V} {B B' : Hp}, (∀ p, B p = none → B' p ≠ none → F' p = none) → Hold K F B xs vs B' → Hold K F' B xs vs B'
  | [], [], _, _, _, h => h
  | .sh d :: r, v :: vs, _, _, k, h => ⟨h.1.mono e, Hold.mono e k h.2⟩
  | .ow d :: r, v :: vs, B, B', k, ⟨p, o, e2, e3, e4, e6, e7⟩ => by
    have sub : ∀ {xs : List Sl} {vs : List V} {B B' : Hp}, Hold K F B xs vs B' → ∀ x o, B x = some o → B' x = some o := by
      intro xs
      induction xs with
      | nil => intro vs B B' h; cases vs with
        | nil => intro x o hx; rw [show B' = B from h]; exact hx
        | cons _ _ => exact h.elim
      | cons y ys ih =>
        intro vs B B' h
        cases vs with
        | nil => cases y <;> exact h.elim
        | cons v vs =>
          cases y with
          | sh d => exact ih h.2
          | ow d =>
            obtain ⟨p, o', _, e3, _, _, e7⟩ := h
            intro x o hx
            exact ih e7 x o (by rw [upd_ne (ne_of_none hx e3)]; exact hx)
    have hp : F' p = none := k p e3 (by rw [sub e7 p _ upd_same]; exact fun z => nomatch z)
    refine ⟨p, o, e2, e3, hp, e6.mono e, Hold.mono e (fun x hx hb => ?_) e7⟩
    have hx' : B x = none := by
      by_cases z : x = p
      · rw [z]; exact e3
      · rw [upd_ne z] at hx; exact hx
    exact k x hx' hb
  | [], _ :: _, _, _, _, h => h.elim
  | .sh _ :: _, [], _, _, _, h => h.elim
  | .ow _ :: _, [], _, _, _, h => h.elim
def SemQ (K : PySem.W.Frag) (W : Wd) (t : TA) (f : Qs W.S) : Prop := ∀ B F0 σ H F ρ (s : W.S), Rel K W B F0 σ H F ρ s → ∀ xs ρ' s', f ρ s = some (xs, ρ', s') → ∀ Q : List V → Hp → Prop,
  (∀ vs H' F' B', Rel K W B' F0 σ H' F' ρ' s' → Sub F F' → Hold K F' B xs vs B' → Q vs H') → t σ H Q
theorem sp_nil : SemQ K W tNil qNil := fun B F0 σ H F ρ s R xs ρ' s' e Q q => by
  cases e
  exact q [] H F B R (Sub.refl F) rfl
theorem hold_none {B F0 : Hp} {σ : L2.St} {H F : Hp} {ρ : Env} {s : W.S} (R : Rel K W B F0 σ H F ρ s) {p : Addr} (h0 : F0 p = none) (hb : B p ≠ none) : F p = none := by
  cases z : F p with
  | none => rfl
  | some o =>
    rcases R.fb p (by rw [z]; exact fun w => nomatch w) with y | y
    · exact absurd h0 y
    · exact absurd y hb
theorem sp_e {tr : TA} {fr : Qs W.S} (ha : SemE K W ta fa) (hr : SemQ K W tr fr) : SemQ K W (tCons ta tr) (qSh fa fr) := fun B F0 σ H F ρ s R xs ρ' s' e Q q => by
  unfold qSh at e
  split at e
  · rename_i x ρ1 s1 h1
    split at e
    · rename_i ys ρ2 s2 h2
      cases e
      refine ha B F0 σ H F ρ s R _ _ _ h1 _ fun v H1 F1 R1 sub1 d1 => ?_
      refine hr B F0 σ H1 F1 _ _ R1 _ _ _ h2 _ fun vs H2 F2 B2 R2 sub2 hh => ?_
      exact q _ H2 F2 B2 R2 (sub1.trans sub2) ⟨d1.mono sub2, hh⟩
    · cases e
  · cases e
theorem sp_nD {tr : TA} {fr : Qs W.S} (ha : SemND K W ta fa) (hr : SemQ K W tr fr) : SemQ K W (tCons ta tr) (qNew fa fr) := fun B F0 σ H F ρ s R xs ρ' s' e Q q => by
  unfold qNew at e
  split at e
  · rename_i x ρ1 s1 h1
    split at e
    · rename_i ys ρ2 s2 h2
      cases e
      refine ha B F0 σ H F ρ s R _ _ _ h1 _ fun p o H1 F1 R1 hB hF sub1 hv => ?_
      have h0 : F0 p = none := R1.ff.none hF
      refine hr (upd B p o) F0 σ H1 F1 _ _ R1 _ _ _ h2 _ fun vs H2 F2 B2 R2 sub2 hh => ?_
      have hsub : Sub (upd B p o) B2 := by
        have : ∀ {xs : List Sl} {vs : List V} {B B' : Hp}, Hold K F2 B xs vs B' → Sub B B' := by
          intro xs
          induction xs with
          | nil => intro vs B B' h; cases vs with
            | nil => intro x o hx; rw [show B' = B from h]; exact hx
            | cons _ _ => exact h.elim
          | cons y ys ih =>
            intro vs B B' h
            cases vs with
            | nil => cases y <;> exact h.elim
            | cons v vs =>
              cases y with
              | sh d => exact ih h.2
              | ow d =>
                obtain ⟨p, o, _, e3, _, _, e7⟩ := h
                exact (Sub.upd e3).trans (ih e7)
        exact this hh
      have hp2 : F2 p = none := hold_none R2 h0 (by rw [hsub p _ upd_same]; exact fun z => nomatch z)
      exact q _ H2 F2 B2 R2 (sub1.trans sub2) ⟨p, o, rfl, hB, hp2, hv.mono sub2, hh⟩
    · cases e
  · cases e
theorem sp_n {tr : TA} {fr : Qs W.S} (ha : SemN K W ta fa) (hr : SemQ K W tr fr) : SemQ K W (tCons ta tr) (qNew fa fr) := sp_nD ha.d hr
/-- the slots are stored, from the last one -/
theorem Rel.setHold : ∀ {is : List Nat} {xs : List Sl} {vs : List V} {B B' F0 : Hp} {σ : L2.St} {H F : Hp} {ρ : Env} {s : W.S}, Rel K W B' F0 σ H F ρ s → Hold K F B xs vs B' → is.Nodup → is.length = xs.length →
    ∃ σ', Rel K W B F0 σ' H F (setAll is xs ρ) s ∧ σ'.length = σ.length ∧ (∀ j, j ∉ is → σ'[j]? = σ[j]?) ∧ ∀ (k : Nat) i v, is[k]? = some i → vs[k]? = some v → i < σ.length → σ'[i]? = some (some v)
  | [], [], [], B, B', F0, σ, H, F, ρ, s, R, h, _, _ => ⟨σ, by rw [← (show B' = B from h)]; exact R, rfl, fun _ _ => rfl, fun k i v e => by simp at e⟩
  | i :: is, .sh d :: xs, v :: vs, B, B', F0, σ, H, F, ρ, s, R, h, nd, hl => by
    obtain ⟨n1, n2⟩ := List.nodup_cons.mp nd
    obtain ⟨σ', R', l1, l2, l3⟩ := Rel.setHold R h.2 n2 (by simpa using hl)
    refine ⟨σ'.set i (some v), R'.setSh h.1, by rw [List.length_set, l1], fun j hj => ?_, fun k i' v' e1 e2 e3 => ?_⟩
    · rw [set_get_ne (fun z => hj (by rw [z]; exact List.mem_cons_self))]
      exact l2 j fun z => hj (List.mem_cons_of_mem _ z)
    · cases k with
      | zero =>
        simp only [List.getElem?_cons_zero, Option.some.injEq] at e1 e2
        subst e1 e2
        exact set_get_eq (by rw [l1]; exact e3)
      | succ k =>
        simp only [List.getElem?_cons_succ] at e1 e2
        have hm : i' ∈ is := List.mem_of_getElem? e1
        rw [set_get_ne (show i ≠ i' from fun z => n1 (by rw [z]; exact hm))]
        exact l3 k i' v' e1 e2 e3
  | i :: is, .ow d :: xs, v :: vs, B, B', F0, σ, H, F, ρ, s, R, ⟨p, o, e2, e3, e4, e6, e7⟩, nd, hl => by
    obtain ⟨n1, n2⟩ := List.nodup_cons.mp nd
    obtain ⟨σ', R', l1, l2, l3⟩ := Rel.setHold R e7 n2 (by simpa using hl)
    subst e2
    refine ⟨σ'.set i (some (.ref p)), R'.setOwO e3 e4 e6, by rw [List.length_set, l1], fun j hj => ?_, fun k i' v' e1 e2 e3 => ?_⟩
    · rw [set_get_ne (fun z => hj (by rw [z]; exact List.mem_cons_self))]
      exact l2 j fun z => hj (List.mem_cons_of_mem _ z)
    · cases k with
      | zero =>
        simp only [List.getElem?_cons_zero, Option.some.injEq] at e1 e2
        subst e1 e2
        exact set_get_eq (by rw [l1]; exact e3)
      | succ k =>
        simp only [List.getElem?_cons_succ] at e1 e2
        have hm : i' ∈ is := List.mem_of_getElem? e1
        rw [set_get_ne (show i ≠ i' from fun z => n1 (by rw [z]; exact hm))]
        exact l3 k i' v' e1 e2 e3
  | [], [], _ :: _, _, _, _, _, _, _, _, _, _, h, _, _ => h.elim
  | [], _ :: _, _, _, _, _, _, _, _, _, _, _, _, _, hl => by simp at hl
  | _ :: _, [], _, _, _, _, _, _, _, _, _, _, _, _, hl => by simp at hl
  | _ :: _, .sh _ :: _, [], _, _, _, _, _, _, _, _, _, h, _, _ => h.elim
  | _ :: _, .ow _ :: _, [], _, _, _, _, _, _, _, _, _, h, _, _ => h.elim
theorem Hold.len {F : Hp} : ∀ {xs : List Sl} {vs : List V} {B B' : Hp}, Hold K F B xs vs B' → vs.length = xs.length
  | [], [], _, _, _ => rfl
  | .sh _ :: _, _ :: _, _, _, h => by rw [List.length_cons, List.length_cons, Hold.len h.2]
  | .ow _ :: _, _ :: _, _, _, ⟨_, _, _, _, _, _, h⟩ => by rw [List.length_cons, List.length_cons, Hold.len h]
  | [], _ :: _, _, _, h => h.elim
  | .sh _ :: _, [], _, _, h => h.elim
  | .ow _ :: _, [], _, _, h => h.elim
theorem ss_par2 {i j : Nat} {t : TA} {f : Qs W.S} (h : SemQ K W t f) (hij : i ≠ j) : SemS K W (tPar i j t) (sPar [i, j] f) := fun B F0 σ H F ρ s R o e Dd q => by
  unfold sPar at e
  split at e
  · rename_i xs ρ1 s1 h1
    split at e
    · rename_i hl
      cases e
      refine h B F0 σ H F ρ s R _ _ _ h1 _ fun vs H1 F1 B1 R1 sub1 hh => ?_
      have hv := hh.len
      rw [hl] at hv
      match vs, hv with
      | [v, w], _ =>
        obtain ⟨σ', R', l1, l2, l3⟩ := R1.setHold (is := [i, j]) hh (by simp [hij]) (by rw [hl])
        refine ⟨v, w, rfl, ?_⟩
        have : (σ.set i (some v)).set j (some w) = σ' := by
          apply List.ext_getElem?
          intro k
          by_cases hk : k < σ.length
          · by_cases e1 : k = j
            · subst e1
              rw [set_get_eq (by rw [List.length_set]; exact hk), l3 1 k w rfl rfl hk]
            · rw [set_get_ne (Ne.symm e1)]
              by_cases e2 : k = i
              · subst e2
                rw [set_get_eq hk, l3 0 k v rfl rfl hk]
              · rw [set_get_ne (Ne.symm e2), l2 k (by simp [e1, e2])]
          · rw [List.getElem?_eq_none (by rw [List.length_set, List.length_set]; omega), List.getElem?_eq_none (by omega)]
        rw [this]
        exact q σ' H1 F1 R' sub1
    · cases e
  · cases e
theorem ss_par3 {i j l : Nat} {t : TA} {f : Qs W.S} (h : SemQ K W t f) (hn : i ≠ j ∧ i ≠ l ∧ j ≠ l) : SemS K W (tPar3 i j l t) (sPar [i, j, l] f) := fun B F0 σ H F ρ s R o e Dd q => by
  obtain ⟨hij, hil, hjl⟩ := hn
  unfold sPar at e
  split at e
  · rename_i xs ρ1 s1 h1
    split at e
    · rename_i hl
      cases e
      refine h B F0 σ H F ρ s R _ _ _ h1 _ fun vs H1 F1 B1 R1 sub1 hh => ?_
      have hv := hh.len
      rw [hl] at hv
      match vs, hv with
      | [v, w, x], _ =>
        obtain ⟨σ', R', l1, l2, l3⟩ := R1.setHold (is := [i, j, l]) hh (by simp [hij, hil, hjl]) (by rw [hl])
        refine ⟨v, w, x, rfl, ?_⟩
        have : ((σ.set i (some v)).set j (some w)).set l (some x) = σ' := by
          apply List.ext_getElem?
          intro k
          by_cases hk : k < σ.length
          · by_cases e0 : k = l
            · subst e0
              rw [set_get_eq (by rw [List.length_set, List.length_set]; exact hk), l3 2 k x rfl rfl hk]
            · rw [set_get_ne (Ne.symm e0)]
              by_cases e1 : k = j
              · subst e1
                rw [set_get_eq (by rw [List.length_set]; exact hk), l3 1 k w rfl rfl hk]
              · rw [set_get_ne (Ne.symm e1)]
                by_cases e2 : k = i
                · subst e2
                  rw [set_get_eq hk, l3 0 k v rfl rfl hk]
                · rw [set_get_ne (Ne.symm e2), l2 k (by simp [e0, e1, e2])]
          · rw [List.getElem?_eq_none (by rw [List.length_set, List.length_set, List.length_set]; omega), List.getElem?_eq_none (by omega)]
        rw [this]
        exact q σ' H1 F1 R' sub1
    · cases e
  · cases e
/-! i += e -/
theorem ss_augA {i : Nat} (ha : SemE K W ta fa) : SemS K W (tAug i ta (ipI fun i j => i + j)) (sAug dAddI i fa) := fun B F0 σ H F ρ s R o e Dd q => by
  unfold sAug at e
  split at e
  · rename_i x hx
    split at e
    · rename_i y ρ1 s1 h1
      split at e
      · rename_i z hz
        cases e
        obtain ⟨v, g1, g2⟩ := R.sl.sh i x hx
        refine ⟨v, g1, ha B F0 σ H F ρ s R _ _ _ h1 _ fun w H1 F1 R1 sub1 d1 => ?_⟩
        cases g2 <;> cases d1 <;> simp only [dAddI, Option.some.injEq, reduceCtorEq] at hz
        subst hz
        exact ⟨_, _, rfl, rfl, q _ H1 F1 (R1.setSh (.int _)) sub1⟩
      · cases e
    · cases e
  · cases e
/-! ### the defs that are called -/
structure Callee (P : Program) (w : World) (K : PySem.W.Frag) (mg : Str → Option Value) (base : Heap) (lev : Nat) (x : Str) (ps : List Str) (sp : Sp) : Prop where
  ex : ∃ f fd, mg x = some (.ref f) ∧ PySem.W.keepIn K (.ref f) = true ∧ Binds K fd ps [] ∧ FnG P w K mg base CX0 lev f fd ps sp
end
end Fw
/-! ## FwZ -/
set_option Elab.async false
set_option linter.all false
set_option maxRecDepth 100000
set_option maxHeartbeats 2000000
/-! zip(a, b, strict=True), and zip, enumerate over lists and tuples in any mix. -/
namespace FwZ
open PySem PySem.Spec PyProof.Rows L2
open Sem (wp)

abbrev IsZipS (h : Heap) (z TI TO : Addr) (f0 : Value) : Prop := h.get? z = some { cls := .type "zip", data := .fields #[f0, .bool false, .bool true, .ref TI, .ref TO] }
section
variable {prog : Program} {w : World} {A : Around} {E : Value → Shared → Prop} {s : Shared} {z TI TO i1 i2 : Addr} {fp1 fp2 : List Addr} {n1 n2 i : Nat} {P1 P2 : Nat → Value → Prop} {St1 St2 : Nat → Heap → Prop} {a1 a2 : Value}

theorem nextOrEnd_item {it : Addr} {fp : List Addr} {n : Nat} {P : Nat → Value → Prop} {St : Nat → Heap → Prop} (D : Draws prog w A it fp n P St) {Q : Option Value → Shared → Prop} (hi : i < n) (st : St i s.heap)
    (hQ : ∀ x h' tk, P i x → St (i + 1) h' → Heap.SameBut it s.heap h' → Q (some x) { s with heap := h', toks := tk }) : wpAny (model prog w) A (Builtin.SmallTypes.nextOrEnd (.ref it)) Q E s := by
  unfold Builtin.SmallTypes.nextOrEnd
  exact wpAny_bind (wpAny_attempt (D.item i s _ _ hi st fun x h' tk p st' hs => wpAny_pure (hQ x h' tk p st' hs)))
theorem nextOrEnd_end {it : Addr} {fp : List Addr} {n : Nat} {P : Nat → Value → Prop} {St : Nat → Heap → Prop} (D : Draws prog w A it fp n P St) {Q : Option Value → Shared → Prop} (st : St n s.heap)
    (hQ : ∀ h', Heap.ExtBut it s.heap h' → Q none { s with heap := h' }) : wpAny (model prog w) A (Builtin.SmallTypes.nextOrEnd (.ref it)) Q E s := by
  unfold Builtin.SmallTypes.nextOrEnd
  refine wpAny_bind (wpAny_attempt (D.done s _ _ st fun h' e hs he => ?_))
  obtain ⟨o, ho, hc⟩ := he
  refine wpAny_bind (wpAny_isInstance (T := "StopIteration") (b := true) ⟨o, ho, hc⟩ isSubtype_stop ?_)
  exact wpAny_pure (hQ h' hs)

theorem zipS_next_item {Q : Value → Shared → Prop} (S : ZipSep2 z TI TO i1 i2 fp1 fp2) (D1 : Draws prog w A i1 fp1 n1 P1 St1) (D2 : Draws prog w A i2 fp2 n2 P2 St2)
    (hz : IsZipS s.heap z TI TO .none) (hTI : IsTupOf2 s.heap TI (.ref i1) (.ref i2)) (hTO : IsTupOf2 s.heap TO a1 a2) (st1 : St1 i s.heap) (st2 : St2 i s.heap) (hlt1 : i < n1) (hlt2 : i < n2)
    (hQ : ∀ x1 x2 h' tk, P1 i x1 → P2 i x2 → IsZipS h' z TI TO (rawInt s.heap.objs.size) → IsTupOf2 h' TO x1 x2 → St1 (i + 1) h' → St2 (i + 1) h' → IsTupOf2 h' s.heap.objs.size x1 x2 → h'.objs.size = s.heap.objs.size + 1 →
      (∀ c o, c ≠ z → c ≠ TO → c ≠ i1 → c ≠ i2 → s.heap.get? c = some o → h'.get? c = some o) → Q (.ref s.heap.objs.size) { s with heap := h', toks := tk }) :
    wpAny (model prog w) A (Builtin.«zip.__next__» ⟨[.ref z], []⟩) (fun fin s' => ∃ v, fin = .done (.ret v) ∧ Q v s') E s := by
  obtain ⟨hp, g, d, tk0, os⟩ := s
  show wpAny _ _ (field (.ref z) 2 >>= _) _ _ _
  refine wpAny_bind (wpAny_field hz rfl (x := .bool true) rfl ?_)
  show wpAny _ _ (field (.ref z) 3 >>= _) _ _ _
  refine wpAny_bind (wpAny_field hz rfl (x := .ref TI) rfl ?_)
  refine wpAny_bind (wpAny_seqItems hTI rfl ?_)
  show wpAny _ _ (Builtin.SmallTypes.ownedTupleIsFree (.ref z) >>= _) _ _ _
  refine wpAny_bind ?_
  unfold Builtin.SmallTypes.ownedTupleIsFree
  refine wpAny_bind (wpAny_field hz rfl (x := .none) rfl (wpAny_pure ?_))
  simp only [if_true]
  refine wpAny_bind (wpAny_rule ?_)
  refine wpAny_bind (wpAny_field hz rfl (x := .ref TO) rfl ?_)
  refine wpAny_bind (wpAny_setField_rec hz (by simp) fun g0 hz0 hs0 => ?_)
  replace hz0 : IsZipS g0 z TI TO .ellipsis := hz0
  replace hs0 : Heap.SameBut z hp g0 := hs0
  refine wpAny_bind ?_
  simp only [List.zipIdx_cons, List.zipIdx_nil, List.forIn_cons, List.forIn_nil]
  refine wpAny_bind (wpAny_bind (wpAny_onRaise ?_))
  show wpAny _ _ (Builtin.SmallTypes.nextOrEnd (.ref i1)) _ _ ⟨g0, g, d, tk0, os⟩
  refine nextOrEnd_item D1 (i := i) hlt1 (D1.over st1 hs0 S.zf1) fun x1 p1 tk1 hx1 sn1 hp1 => ?_
  replace hp1 : Heap.SameBut i1 g0 p1 := hp1
  have hU1 : IsTupOf2 p1 TO a1 a2 := hp1.extBut _ _ S.Ti1 (hs0.extBut _ _ S.TOz hTO)
  refine wpAny_bind (wpAny_seqItems (s := ⟨p1, g, d, tk1, os⟩) hU1 rfl ?_)
  refine wpAny_bind (updateSeq_IsTupOf2 (s := ⟨p1, g, d, tk1, os⟩) hU1 fun g1 hT1 hs1 => ?_)
  replace hT1 : IsTupOf2 g1 TO x1 a2 := hT1
  replace hs1 : Heap.SameBut TO p1 g1 := hs1
  refine wpAny_bind (wpAny_letGo (wpAny_pure ?_))
  refine wpAny_bind (wpAny_bind (wpAny_onRaise ?_))
  show wpAny _ _ (Builtin.SmallTypes.nextOrEnd (.ref i2)) _ _ ⟨g1, g, d, tk1, os⟩
  refine nextOrEnd_item D2 (i := i) hlt2 (D2.over (D2.over (D2.over st2 hs0 S.zf2) hp1 S.sep1_2) hs1 S.Tf2) fun x2 p2 tk2 hx2 sn2 hp2 => ?_
  replace hp2 : Heap.SameBut i2 g1 p2 := hp2
  have hU2 : IsTupOf2 p2 TO x1 a2 := hp2.extBut _ _ S.Ti2 hT1
  refine wpAny_bind (wpAny_seqItems (s := ⟨p2, g, d, tk2, os⟩) hU2 rfl ?_)
  refine wpAny_bind (updateSeq_IsTupOf2 (s := ⟨p2, g, d, tk2, os⟩) hU2 fun g2 hT2 hs2 => ?_)
  replace hT2 : IsTupOf2 g2 TO x1 x2 := hT2
  replace hs2 : Heap.SameBut TO p2 g2 := hs2
  refine wpAny_bind (wpAny_letGo (wpAny_pure (wpAny_pure ?_)))
  refine wpAny_bind (wpAny_seqItems (s := ⟨g2, g, d, tk2, os⟩) hT2 rfl ?_)
  refine wpAny_bind (wpAny_newTuple ?_)
  have hsz : g2.objs.size = hp.objs.size := by rw [hs2.1, hp2.1, hs1.1, hp1.1, hs0.1]
  have hzz : IsZipS g2 z TI TO .ellipsis := (hs2.extBut _ _ S.TOz.symm (hp2.extBut _ _ S.zi2 (hs1.extBut _ _ S.TOz.symm (hp1.extBut _ _ S.zi1 hz0))))
  have hkk : ∀ c o, c ≠ z → c ≠ TO → c ≠ i1 → c ≠ i2 → hp.get? c = some o → g2.get? c = some o := fun c o cz cT c1 c2 e =>
    (hs2.extBut _ _ cT (hp2.extBut _ _ c2 (hs1.extBut _ _ cT (hp1.extBut _ _ c1 (hs0.extBut _ _ cz e)))))
  have hj1 : St1 (i + 1) g2 := (D1.over (D1.over (D1.over sn1 hs1 S.Tf1) hp2 S.sep2_1) hs2 S.Tf1)
  have hj2 : St2 (i + 1) g2 := (D2.over sn2 hs2 S.Tf2)
  have hzlt : z < g2.objs.size := Heap.lt_size hzz
  show wpAny _ _ (Builtin.SmallTypes.ownedTupleHandOut (.ref z) (.ref g2.objs.size) >>= _) _ _ ⟨g2.push { cls := .type "tuple", data := .seq #[x1, x2] }, g, d, tk2, os⟩
  refine wpAny_bind ?_
  unfold Builtin.SmallTypes.ownedTupleHandOut
  have hz₆ : IsZipS (g2.push { cls := .type "tuple", data := .seq #[x1, x2] }) z TI TO .ellipsis := Heap.get?_push_of_some _ hzz
  refine wpAny_bind (wpAny_setField_rec hz₆ (by simp) fun h₇ hz₇ hs₇ => ?_)
  replace hz₇ : IsZipS h₇ z TI TO (rawInt g2.objs.size) := hz₇
  refine wpAny_setField_rec hz₇ (by simp) fun h₈ hz₈ hs₈ => ?_
  replace hz₈ : IsZipS h₈ z TI TO (rawInt g2.objs.size) := hz₈
  replace hs₇ : Heap.SameBut z (g2.push { cls := .type "tuple", data := .seq #[x1, x2] }) h₇ := hs₇
  replace hs₈ : Heap.SameBut z h₇ h₈ := hs₈
  have up : ∀ c o, c ≠ z → g2.get? c = some o → h₈.get? c = some o := fun c o c1 e => hs₈.extBut _ _ c1 (hs₇.extBut _ _ c1 (Heap.get?_push_of_some _ e))
  have hT₈ : IsTupOf2 h₈ g2.objs.size x1 x2 := hs₈.extBut _ _ (Nat.ne_of_gt hzlt) (hs₇.extBut _ _ (Nat.ne_of_gt hzlt) (Heap.get?_push_size _ rfl))
  have hz8 : h₈.objs.size = g2.objs.size + 1 := by rw [hs₈.1, hs₇.1, Heap.size_push]
  rw [hsz] at hz₈ hT₈ hz8
  refine wpAny_pure ⟨_, rfl, ?_⟩
  show Q (.ref g2.objs.size) ⟨h₈, g, d, tk2, os⟩
  rw [hsz]
  exact hQ x1 x2 h₈ tk2 hx1 hx2 hz₈ (up _ _ S.TOz hT2) (D1.frame _ _ _ hj1 fun b hb o e => up b o (fun q => S.zf1 (q ▸ hb)) e) (D2.frame _ _ _ hj2 fun b hb o e => up b o (fun q => S.zf2 (q ▸ hb)) e) hT₈ hz8 fun c o cz cT c1 c2 e => up c o cz (hkk c o cz cT c1 c2 e)

theorem zipS_next_end {Q : Fin → Shared → Prop} (hh : A.handled = none) (S : ZipSep2 z TI TO i1 i2 fp1 fp2) (D1 : Draws prog w A i1 fp1 n1 P1 St1) (D2 : Draws prog w A i2 fp2 n1 P2 St2)
    (hz : IsZipS s.heap z TI TO .none) (hTI : IsTupOf2 s.heap TI (.ref i1) (.ref i2)) (hTO : IsTupOf2 s.heap TO a1 a2) (st1 : St1 n1 s.heap) (st2 : St2 n1 s.heap)
    (hE : ∀ h' tk e, (∀ c o, c ≠ z → c ≠ TO → c ≠ i1 → c ≠ i2 → s.heap.get? c = some o → h'.get? c = some o) → (∃ o, h'.get? e = some o ∧ o.cls = .type "StopIteration") → E (.ref e) { s with heap := h', toks := tk }) :
    wpAny (model prog w) A (Builtin.«zip.__next__» ⟨[.ref z], []⟩) Q E s := by
  obtain ⟨hp, g, d, tk0, os⟩ := s
  show wpAny _ _ (field (.ref z) 2 >>= _) _ _ _
  refine wpAny_bind (wpAny_field hz rfl (x := .bool true) rfl ?_)
  show wpAny _ _ (field (.ref z) 3 >>= _) _ _ _
  refine wpAny_bind (wpAny_field hz rfl (x := .ref TI) rfl ?_)
  refine wpAny_bind (wpAny_seqItems hTI rfl ?_)
  show wpAny _ _ (Builtin.SmallTypes.ownedTupleIsFree (.ref z) >>= _) _ _ _
  refine wpAny_bind ?_
  unfold Builtin.SmallTypes.ownedTupleIsFree
  refine wpAny_bind (wpAny_field hz rfl (x := .none) rfl (wpAny_pure ?_))
  simp only [if_true]
  refine wpAny_bind (wpAny_rule ?_)
  refine wpAny_bind (wpAny_field hz rfl (x := .ref TO) rfl ?_)
  refine wpAny_bind (wpAny_setField_rec hz (by simp) fun g0 hz0 hs0 => ?_)
  replace hz0 : IsZipS g0 z TI TO .ellipsis := hz0
  replace hs0 : Heap.SameBut z hp g0 := hs0
  refine wpAny_bind ?_
  simp only [List.zipIdx_cons, List.zipIdx_nil, List.forIn_cons, List.forIn_nil]
  refine wpAny_bind (wpAny_bind (wpAny_onRaise ?_))
  show wpAny _ _ (Builtin.SmallTypes.nextOrEnd (.ref i1)) _ _ ⟨g0, g, d, tk0, os⟩
  refine nextOrEnd_end D1 (D1.over st1 hs0 S.zf1) fun p1 hp1 => ?_
  replace hp1 : Heap.ExtBut i1 g0 p1 := hp1
  have hz1 : IsZipS p1 z TI TO .ellipsis := hp1 _ _ S.zi1 hz0
  refine wpAny_bind (wpAny_setField_rec (s := ⟨p1, g, d, tk0, os⟩) hz1 (by simp) fun p2 hz2 hp2 => ?_)
  replace hz2 : IsZipS p2 z TI TO .none := hz2
  replace hp2 : Heap.SameBut z p1 p2 := hp2
  have hkk : ∀ c o, c ≠ z → c ≠ TO → c ≠ i1 → c ≠ i2 → hp.get? c = some o → p2.get? c = some o := fun c o cz cT c1 c2 e =>
    hp2.extBut _ _ cz (hp1 _ _ c1 (hs0.extBut _ _ cz e))
  have st2' : St2 n1 p2 := by
    refine D2.frame _ _ _ (D2.over st2 hs0 S.zf2) fun b hb o e => ?_
    exact hp2.extBut _ _ (fun q => S.zf2 (q ▸ hb)) (hp1 _ _ (fun q => S.sep1_2 (q ▸ hb)) e)
  refine wpAny_bind ?_
  refine wpAny_bind ?_
  simp only [List.drop_succ_cons, List.drop_zero, List.zipIdx_cons, List.zipIdx_nil, List.forIn_cons, List.forIn_nil]
  refine wpAny_bind (wpAny_bind (nextOrEnd_end D2 st2' fun h' hs => ?_))
  simp only [Option.isSome_none, Bool.false_eq_true, if_false]
  refine wpAny_pure (wpAny_pure (wpAny_bind (wpAny_rule ?_)))
  show wpAny _ _ (newExc (.type "StopIteration") [] >>= _) _ _ _
  refine wpAny_bind ?_
  simp only [newExc, newTuple]
  refine wpAny_bind (wpAny_newObj_type ?_ (by size_fits))
  refine wpAny_bind (m := firstArgMember _ _) (wpAny_of_eq (a := Value.none) (by first | rfl | (simp only [firstArgMember]; rfl)) ?_)
  refine wpAny_newObj_type ?_ (by size_fits)
  simp only [raiseNew]
  refine wpAny_bind (wpAny_handled ?_)
  first | rw [show A.in1.handled = none from hh] | rw [hh]
  refine wpAny_bind (wpAny_pure (wpAny_throw ?_))
  exact hE _ tk0 _ (fun c o cz cT c1 c2 o' => ((hs.push _).push _) _ _ c2 (hkk c o cz cT c1 c2 o')) ⟨_, Heap.get?_push_size _ rfl, rfl⟩

theorem pyNext_zipS_item {Q : Option Value → Shared → Prop} (S : ZipSep2 z TI TO i1 i2 fp1 fp2) (D1 : Draws prog w A.in1 i1 fp1 n1 P1 St1) (D2 : Draws prog w A.in1 i2 fp2 n2 P2 St2)
    (hz : IsZipS s.heap z TI TO .none) (hTI : IsTupOf2 s.heap TI (.ref i1) (.ref i2)) (hTO : IsTupOf2 s.heap TO a1 a2) (st1 : St1 i s.heap) (st2 : St2 i s.heap) (hlt1 : i < n1) (hlt2 : i < n2)
    (hQ : ∀ x1 x2 h' tk, P1 i x1 → P2 i x2 → IsZipS h' z TI TO (rawInt s.heap.objs.size) → IsTupOf2 h' TO x1 x2 → St1 (i + 1) h' → St2 (i + 1) h' → IsTupOf2 h' s.heap.objs.size x1 x2 → h'.objs.size = s.heap.objs.size + 1 →
      (∀ c o, c ≠ z → c ≠ TO → c ≠ i1 → c ≠ i2 → s.heap.get? c = some o → h'.get? c = some o) → Q (some (.ref s.heap.objs.size)) { s with heap := h', toks := tk }) :
    wpAny (model prog w) A (pyNext (.ref z)) Q E s := by
  have hT : s.TypeIs (.ref z) "zip" := ⟨_, hz, rfl⟩
  unfold pyNext
  exact wpAny_bind (wpAny_attempt (wpAny_callSpecial?_slot (name := Str.ofString "__next__") hT F.slot_zip_next
    (wpAny_call_entry F.slot_zip_next hT F.entry_zip_next
      (zipS_next_item S D1 D2 hz hTI hTO st1 st2 hlt1 hlt2 fun x1 x2 h' tk y1 y2 b1 b2 d1 d2 b5 b6 b7 => wpAny_pure (hQ x1 x2 h' tk y1 y2 b1 b2 d1 d2 b5 b6 b7)) (F.args_zip_next_1 _))))
theorem pyNext_zipS_end {Q : Option Value → Shared → Prop} (hh : A.in1.handled = none) (S : ZipSep2 z TI TO i1 i2 fp1 fp2) (D1 : Draws prog w A.in1 i1 fp1 n1 P1 St1) (D2 : Draws prog w A.in1 i2 fp2 n1 P2 St2)
    (hz : IsZipS s.heap z TI TO .none) (hTI : IsTupOf2 s.heap TI (.ref i1) (.ref i2)) (hTO : IsTupOf2 s.heap TO a1 a2) (st1 : St1 n1 s.heap) (st2 : St2 n1 s.heap)
    (hQ : ∀ h' tk, (∀ c o, c ≠ z → c ≠ TO → c ≠ i1 → c ≠ i2 → s.heap.get? c = some o → h'.get? c = some o) → Q none { s with heap := h', toks := tk }) : wpAny (model prog w) A (pyNext (.ref z)) Q E s := by
  have hT : s.TypeIs (.ref z) "zip" := ⟨_, hz, rfl⟩
  unfold pyNext
  refine wpAny_bind (wpAny_attempt (wpAny_callSpecial?_slot (name := Str.ofString "__next__") hT F.slot_zip_next
    (wpAny_call_entry F.slot_zip_next hT F.entry_zip_next (zipS_next_end hh S D1 D2 hz hTI hTO st1 st2 fun h' tk e hk he => ?_) (F.args_zip_next_1 _))))
  obtain ⟨o, ho, hc⟩ := he
  refine wpAny_bind (wpAny_isInstance (T := "StopIteration") (b := true) ⟨o, ho, hc⟩ isSubtype_stop ?_)
  exact wpAny_pure (hQ _ _ hk)
theorem letGo_zipS {elts : List Expr} {x1} {pos : Pos} {T : Addr} {Q : Unit → Shared → Prop} (hz : IsZipS s.heap z TI TO (rawInt T))
    (hQ : ∀ h', IsZipS h' z TI TO .none → Heap.SameBut z s.heap h' → Q () { s with heap := h' }) :
    wpAny (model prog w) A (letOwnedTupleGo (.Tuple elts x1 pos) (.ref z) (.ref T)) Q E s := by
  unfold letOwnedTupleGo
  refine wpAny_bind (wpAny_load hz ?_)
  show wpAny _ _ (if (["enumerate", "zip", "dict_itemiterator", "dict_reverseitemiterator", "odict_iterator", "itertools.zip_longest", "itertools.pairwise"].contains "zip" &&
      (#[rawInt T, .bool false, .bool true, .ref TI, .ref TO] : Array Value)[0]? == some (rawInt T)) = true then _ else _) Q E s
  rw [if_pos (by simp)]
  refine wpAny_bind (wpAny_rule ?_)
  show wpAny _ _ (setField (.ref z) 0 .none) Q E s
  exact wpAny_setField_rec hz (by simp) fun h' hz' hs' => hQ h' hz' hs'
theorem pyIter_zipS {f0 : Value} {Q : Value → Shared → Prop} (hz : IsZipS s.heap z TI TO f0) (h : Q (.ref z) s) : wpAny (model prog w) A (pyIter (.ref z)) Q E s := by
  have hT : s.TypeIs (.ref z) "zip" := ⟨_, hz, rfl⟩
  refine wpAny_pyIter_slot hT F.slot_zip_iter (wpAny_call_entry F.slot_zip_iter hT F.entry_zip_iter ?_ (F.args_zip_iter_1 _))
  show wpAny _ _ (ret (.ref z)) _ _ s
  exact wpAny_pure ⟨_, rfl, "zip", _, hT, F.slot_zip_next.lookup, h⟩
end

theorem typeCall_zip_strict (a b c : Value) : checkTypeCall "zip" ⟨[a, b], [(Str.ofString "strict", c)]⟩ = pure () := by kernel_rfl
theorem newCall_zip_strict (a b c : Value) : checkBuiltinCall "zip.__new__" ⟨[.type "zip", a, b], [(Str.ofString "strict", c)]⟩ = pure () := by kernel_rfl
theorem args_object_init_strict (obj a b c : Value) : argsOk "object.__init__" ⟨[obj, a, b], [(Str.ofString "strict", c)]⟩ := by unfold argsOk; kernel_rfl
abbrev gsZ2 (h : Heap) (o1 o2 : Obj) : Heap := (gzO2 h o1 o2).push { cls := .type "zip", data := .fields #[.none, .bool false, .bool true, .ref ((h.push o1).push o2).objs.size, .ref (gzT2 h o1 o2).objs.size] }
theorem meets_zip_newS {v1 v2 : Value} {o1 o2 : Obj} {H1 H2 : Heap → Prop} (B1 : Begins v1 o1 H1) (B2 : Begins v2 o2 H2) :
    Meets (Builtin.«zip.__new__» ⟨[.type "zip", v1, v2], [(Str.ofString "strict", .bool true)]⟩) (fun _ R s => (H1 s.heap ∧ H2 s.heap) ∧
      R (.ok (.ret (.ref (gzO2 s.heap o1 o2).objs.size))) { s with heap := gsZ2 s.heap o1 o2 }) :=
  .of_wp fun prog w A R s h => by
    obtain ⟨hp, g, d, tk, os⟩ := s; obtain ⟨⟨h1, h2⟩, h⟩ := h
    have hsub := sub_zip
    have q1 : ∀ {A' : Around} {E : Value → Shared → Prop} {Q : Value → Shared → Prop}, Q (.ref hp.objs.size) ⟨(hp.push o1), g, d, tk, os⟩ → wpAny (model prog w) A' (pyIter v1) Q E ⟨hp, g, d, tk, os⟩ :=
      fun q => B1.iter prog w _ _ ⟨hp, g, d, tk, os⟩ _ (B1.keeps _ _ h1 fun b o' e => e) q
    have q2 : ∀ {A' : Around} {E : Value → Shared → Prop} {Q : Value → Shared → Prop}, Q (.ref (hp.push o1).objs.size) ⟨((hp.push o1).push o2), g, d, tk, os⟩ → wpAny (model prog w) A' (pyIter v2) Q E ⟨(hp.push o1), g, d, tk, os⟩ :=
      fun q => B2.iter prog w _ _ ⟨(hp.push o1), g, d, tk, os⟩ _ (B2.keeps _ _ h2 fun b o' e => (Heap.get?_push_of_some _ e)) q
    have e2 : (Str.ofString "strict" != ("strict" : Str)) = false := by decide +kernel
    wp_walk using q1, q2
    exact ⟨_, rfl, h⟩
section
variable {prog : Program} {w : World} {A : Around} {E : Value → Shared → Prop} {s : Shared}
theorem zipS_begins2 {v1 v2 : Value} {o1 o2 : Obj} {H1 H2 : Heap → Prop} {Q : Value → Shared → Prop} (B1 : Begins v1 o1 H1) (B2 : Begins v2 o2 H2) (h1 : H1 s.heap) (h2 : H2 s.heap)
    (h : ∀ h', IsZipS h' (s.heap.objs.size + 4) (s.heap.objs.size + 2) (s.heap.objs.size + 3) .none → IsTupOf2 h' (s.heap.objs.size + 2) (.ref s.heap.objs.size) (.ref (s.heap.objs.size + 1)) →
      IsTupOf2 h' (s.heap.objs.size + 3) .none .none → h'.get? s.heap.objs.size = some o1 → h'.get? (s.heap.objs.size + 1) = some o2 → h'.objs.size = s.heap.objs.size + 5 →
      (∀ c o, s.heap.get? c = some o → h'.get? c = some o) → Q (.ref (s.heap.objs.size + 4)) { s with heap := h' }) :
    wpAny (model prog w) A (call (.type "zip") [v1, v2] [(Str.ofString "strict", .bool true)]) Q E s := by
  refine callType_newKw F.called_zip (by decide) (typeCall_zip_strict _ _ _) (newCall_zip_strict _ _ _) (fun obj => args_object_init_strict obj _ _ _) F.entry_zip_new
    (meets_zip_newS B1 B2) ⟨⟨h1, h2⟩, ?_⟩
  have z1 : (s.heap.push o1).objs.size = s.heap.objs.size + 1 := by rw [Heap.size_push]
  have z2 : ((s.heap.push o1).push o2).objs.size = s.heap.objs.size + 2 := by rw [Heap.size_push, z1]
  have zT : (gzT2 s.heap o1 o2).objs.size = s.heap.objs.size + 3 := by rw [Heap.size_push, z2]
  have zO : (gzO2 s.heap o1 o2).objs.size = s.heap.objs.size + 4 := by rw [Heap.size_push, zT]
  have zZ : (gsZ2 s.heap o1 o2).objs.size = s.heap.objs.size + 5 := by rw [Heap.size_push, zO]
  have gZ : (gsZ2 s.heap o1 o2).get? (gzO2 s.heap o1 o2).objs.size = some { cls := .type "zip", data := .fields #[.none, .bool false, .bool true, .ref ((s.heap.push o1).push o2).objs.size, .ref (gzT2 s.heap o1 o2).objs.size] } := Heap.get?_push_size _ rfl
  have gO : (gsZ2 s.heap o1 o2).get? (gzT2 s.heap o1 o2).objs.size = some { cls := .type "tuple", data := .seq #[.none, .none] } := Heap.get?_push_of_some _ (Heap.get?_push_size _ rfl)
  have gT : (gsZ2 s.heap o1 o2).get? ((s.heap.push o1).push o2).objs.size = some { cls := .type "tuple", data := .seq #[.ref s.heap.objs.size, .ref (s.heap.push o1).objs.size] } := Heap.get?_push_of_some _ (Heap.get?_push_of_some _ (Heap.get?_push_size _ rfl))
  have g1 : (gsZ2 s.heap o1 o2).get? s.heap.objs.size = some o1 := Heap.get?_push_of_some _ (Heap.get?_push_of_some _ (Heap.get?_push_of_some _ (Heap.get?_push_of_some _ (Heap.get?_push_size _ B1.free))))
  have g2 : (gsZ2 s.heap o1 o2).get? (s.heap.push o1).objs.size = some o2 := Heap.get?_push_of_some _ (Heap.get?_push_of_some _ (Heap.get?_push_of_some _ (Heap.get?_push_size _ B2.free)))
  rw [zO, zT, z2] at gZ
  rw [zT] at gO
  rw [z2, z1] at gT
  rw [z1] at g2
  show _ ∧ _
  rw [zO]
  exact ⟨⟨_, gZ, rfl⟩, h _ gZ gT gO g1 g2 zZ fun c o e => Heap.get?_push_of_some _ (Heap.get?_push_of_some _ (Heap.get?_push_of_some _ (Heap.get?_push_of_some _ (Heap.get?_push_of_some _ e))))⟩
end

/-! ### lists and tuples as one kind of thing -/
inductive IK | l | t
def SqK (K : PySem.W.Frag) (H : Hp) : IK → Addr → List V → Prop
  | .l, a, xs => SqL K H a xs
  | .t, a, xs => SqT K H a xs
def itO : IK → Addr → Obj
  | .l, a => { cls := .type "list_iterator", data := .fields #[.ref a, .int 0 0] }
  | .t, a => { cls := .type "tuple_iterator", data := .fields #[.ref a, .int 0 0] }
def IsK (h : Heap) : IK → Addr → Addr → Nat → Prop
  | .l, it, a, i => h.IsListIter it a i
  | .t, it, a, i => h.IsTupleIter it a i
def HasK (h : Heap) : IK → Addr → List Value → Prop
  | .l, a, its => h.IsList a its.toArray
  | .t, a, its => h.IsTuple a its.toArray
theorem IsK.at {h h' : Heap} {k : IK} {it a : Addr} {i : Nat} (x : IsK h k it a i) (y : ∀ o, h.get? it = some o → h'.get? it = some o) : IsK h' k it a i := by
  cases k
  · exact Heap.IsListIter.at x fun o e => y o e
  · exact Heap.IsTupleIter.at x fun o e => y o e
theorem IsK.obj {h : Heap} {k : IK} {it a : Addr} {i : Nat} (x : IsK h k it a i) : ∃ o, h.get? it = some o ∧ ∀ v, o.data ≠ .cell v := by
  cases k
  · obtain ⟨o, e, c, d⟩ := x
    exact ⟨o, e, fun v z => by rw [d] at z; cases z⟩
  · obtain ⟨o, e, c, d⟩ := x
    exact ⟨o, e, fun v z => by rw [d] at z; cases z⟩
theorem IsK.lt {h : Heap} {k : IK} {it a : Addr} {i : Nat} (x : IsK h k it a i) : it < h.objs.size := by
  obtain ⟨o, e, _⟩ := x.obj
  exact Heap.lt_size e
theorem IsK.new {h : Heap} {k : IK} {it a : Addr} (e : h.get? it = some (itO k a)) : IsK h k it a 0 := by
  cases k
  · exact ⟨_, e, rfl, rfl⟩
  · exact ⟨_, e, rfl, rfl⟩
theorem drawsK {prog : Program} {w : World} {A : Around} (hh : A.handled = none) (k : IK) (it a : Addr) (hne : a ≠ it) (its : List Value) :
    Draws prog w A it [it, a] its.toArray.size (fun i v => its.toArray[i]? = some v) (fun i h => IsK h k it a i ∧ HasK h k a its) := by
  cases k
  · exact Draws.list (prog := prog) (w := w) hh it a hne its.toArray
  · exact Draws.tuple (prog := prog) (w := w) hh it a hne its.toArray
/-- at its end -/
theorem drawsE {prog : Program} {w : World} {A : Around} (hh : A.handled = none) (k : IK) (it a : Addr) (its : List Value) (n : Nat) (hn : its.length ≤ n) :
    Draws prog w A it [it, a] n (fun _ _ => False) (fun i h => i = n ∧ IsK h k it a i ∧ HasK h k a its) where
  live := fun _ _ st => let ⟨o, ho, _⟩ := st.2.1.obj; ⟨o, ho⟩
  frame := fun _ _ _ st hk => ⟨st.1, st.2.1.at fun o e => hk it (by simp) o e, by
    have h2 := st.2.2
    cases k
    · exact h2.at fun o e => hk a (by simp) o e
    · exact h2.at fun o e => hk a (by simp) o e⟩
  item := fun i s Q E hi st hQ => absurd st.1 (Nat.ne_of_lt hi)
  done := fun s Q E st hE => by
    obtain ⟨_, h1, h2⟩ := st
    cases k
    · exact wpAny_nextOf_list_end hh h1 h2 (by simp; exact hn) hE
    · exact wpAny_nextOf_tuple_end hh h1 h2 (by simp; exact hn) hE
theorem beginsK (k : IK) (a : Addr) (its : List Value) : Begins (.ref a) (itO k a) fun h => HasK h k a its := by
  cases k
  · exact begins_list a its.toArray
  · exact begins_tuple a its.toArray
theorem HasK.lt {h : Heap} {k : IK} {a : Addr} {its : List Value} (x : HasK h k a its) : a < h.objs.size := by
  cases k
  · obtain ⟨o, e, _⟩ := x
    exact Heap.lt_size e
  · obtain ⟨o, e, _⟩ := x
    exact Heap.lt_size e
theorem inv_sqK {X : Cx} {pins : List (Addr × Obj)} {σ : L2.St} {H : Hp} {s : Shared} {k : IK} {a : Addr} {xs : List V} (I : Inv X pins σ H s) (h : SqK X.K H k a xs) :
    ∃ its : List Value, Vals xs its ∧ HasK s.heap k a its ∧ xs.length ≤ sizeLine := by
  cases k
  · obtain ⟨its, r, p, z⟩ := I.list h
    exact ⟨its, r, p.isList, z⟩
  · obtain ⟨its, r, p, z⟩ := I.tuple h
    exact ⟨its, r, (show s.heap.IsTuple a its.toArray from p), z⟩
theorem sqK_inj {X : Cx} {pins : List (Addr × Obj)} {σ : L2.St} {H : Hp} {s : Shared} {k : IK} {a : Addr} {xs ys : List V} (I : Inv X pins σ H s) (h : SqK X.K H k a xs) (h' : SqK X.K H k a ys) : xs = ys := by
  cases k
  · exact I.list_inj h h'
  · exact I.tuple_inj h h'
theorem sepK {n a b : Nat} (ha : a < n) (hb : b < n) : ZipSep2 (n + 4) (n + 2) (n + 3) n (n + 1) [n, a] [n + 1, b] := by
  have ne : ∀ x y : Nat, x < y ∨ y < x → (show Addr from x) ≠ y := fun x y h e => by
    have e' : @Eq Nat x y := e
    omega
  have nm : ∀ x y z : Nat, x ≠ y → x ≠ z → (show Addr from x) ∉ [(show Addr from y), z] := fun x y z h1 h2 m => by
    rcases List.mem_cons.mp m with e | m
    · exact h1 e
    · exact h2 (List.mem_singleton.mp m)
  exact ⟨ne _ _ (by omega), ne _ _ (by omega), ne _ _ (by omega), ne _ _ (by omega), List.mem_cons_self .., nm _ _ _ (by omega) (by omega), nm _ _ _ (by omega) (by omega), ne _ _ (by omega), List.mem_cons_self .., nm _ _ _ (by omega) (by omega), nm _ _ _ (by omega) (by omega),
    nm _ _ _ (by omega) (by omega), nm _ _ _ (by omega) (by omega)⟩

/-! ### enumerate -/
def IteK (K : PySem.W.Frag) (k : IK) (a : Addr) : It :=
  ⟨fun i H => ∃ (xs : List V) (x : V), SqK K H k a xs ∧ xs[i]? = some x, fun i H v H' => ∃ T x, v = .ref T ∧ H T = none ∧ H' = upd H T (.tup [.int (i : Nat), x]) ∧ ∀ xs, SqK K H k a xs → xs[i]? = some x, fun i H => ∃ xs : List V, SqK K H k a xs ∧ xs.length ≤ i⟩
theorem turn_enumK {P : Program} {w : World} {K : PySem.W.Frag} {elts : List Expr} {kk : Nat} {tpos : Pos} (k : IK) (a e it : Addr) :
    Turn P w K (.Tuple elts kk tpos) (IteK K k a) [e, it] e (fun i h => (∃ old, IsEnum h e it ((i : Nat) : Int) old) ∧ IsK h k it a i ∧ e ≠ it ∧ a ≠ it ∧ a ≠ e) where
  mem := by simp
  obj := fun i h st b hb => by
    obtain ⟨⟨old, he⟩, hi, _⟩ := st
    have e' : b = e ∨ b = it := by simpa using hb
    rcases e' with z | z
    · rw [z]; exact ⟨_, he, fun v q => nomatch q⟩
    · rw [z]; exact hi.obj
  keep := fun i h h' st k => let ⟨⟨old, he⟩, hi, hne, h2⟩ := st; ⟨⟨old, k e (by simp) _ he⟩, hi.at fun o q => k it (by simp) o q, hne, h2⟩
  item := by
    intro X hP hw hK hc i pins s σ H E I hf st hg
    subst hP hw hK
    obtain ⟨⟨old, he⟩, hit, hne, hai, hae⟩ := st
    obtain ⟨xs, x, hq, hx⟩ := hg
    obtain ⟨its, rv, p, hz⟩ := inv_sqK I hq
    obtain ⟨u, hu, ru⟩ := rv.get hx
    have hel : e < s.heap.objs.size := Heap.lt_size he
    have hil : it < s.heap.objs.size := hit.lt
    have hlt : i < its.toArray.size := by simpa using (List.getElem?_eq_some_iff.mp hu).1
    refine wpAny_pyNext_enum_itemD (drawsK (A := X.A.in1) (show X.A.in1.handled = none from I.ok.hd hc) k it a hai its) he ⟨hit, p⟩ hlt hne (by simp; exact ⟨hne, fun q => hae q.symm⟩) fun u' h' tk hu' ho hst' hT hsz hk => ?_
    have eu : u' = u := by
      have : its[i]? = some u' := by simpa using hu'
      rw [hu] at this
      exact (Option.some.inj this).symm
    subst eu
    have hit' : IsK h' k it a (i + 1) := hst'.1
    refine ⟨_, rfl, wpAny_letOwnedTupleGo_enum (s := { s with heap := h', toks := tk + 1 }) ho fun h'' he' sb => ?_⟩
    have hT2 : h''.get? s.heap.objs.size = some { cls := .type "tuple", data := .seq #[.int i tk, u'] } := (sb.2 _ (Nat.ne_of_gt hel)).trans hT
    have new : ObjOk X.prog X.w (upd H s.heap.objs.size (.tup [.int (i : Nat), x])) h'' s.heap.objs.size (.tup [.int (i : Nat), x]) :=
      ⟨by show 2 ≤ sizeLine; decide, [.int i tk, u'], .cons ⟨_, rfl⟩ (.cons ru .nil), ⟨_, hT2, rfl, _, rfl⟩⟩
    have I1 : Inv X pins σ (upd H s.heap.objs.size (.tup [.int (i : Nat), x])) { s with heap := h'', toks := tk + 1 } :=
      I.turnedNew (ch := [e, it]) (fun b ob hb q => (sb.2 b (fun z => hb (by simp [z]))).trans (hk b ob (fun z => hb (by simp [z])) (fun z => hb (by simp [z])) q)) hf (Nat.le_refl _) new
    refine ⟨.ref s.heap.objs.size, _, I1, rfl, ⟨_, x, rfl, I.hok.fresh (Nat.le_refl _), rfl, fun ys hy => by rw [sqK_inj I hy hq]; exact hx⟩, ⟨⟨u', ?_⟩, hit'.at fun o q => (sb.2 it (Ne.symm hne)).trans q, hne, hai, hae⟩, fun b hb => ?_⟩
    · have e1 : ((i + 1 : Nat) : Int) = (i : Int) + 1 := by omega
      rw [e1]; exact he'
    · have hb' : b < s.heap.objs.size := by
        have e' : b = e ∨ b = it := by simpa using hb
        rcases e' with z | z
        · rw [z]; exact hel
        · rw [z]; exact hil
      rw [upd_ne (Nat.ne_of_lt hb')]
      exact (hf b hb).1
  done := by
    intro X hP hw hK hc i pins s σ H E I hf st hg
    subst hP hw hK
    obtain ⟨⟨old, he⟩, hit, hne, hai, hae⟩ := st
    obtain ⟨xs, hq, hx⟩ := hg
    obtain ⟨its, rv, p, hz⟩ := inv_sqK I hq
    obtain ⟨f0, f1, f2, f3, f4, f5⟩ := hf it (by simp)
    have hl := rv.length
    exact wpAny_pyNext_enum_endD (drawsE (A := X.A.in1) (show X.A.in1.handled = none from I.ok.hd hc) k it a its i (by omega)) he ⟨rfl, hit, p⟩ fun h' eb => ⟨rfl, I.turned (t' := s.toks) (fun b o hb q => eb b o hb q) f0 f1 f3 f4 f5⟩
  self := fun A i s Q E st h => let ⟨⟨_, he⟩, _⟩ := st; wpAny_pyIter_enum he h
end FwZ
/-! ## FwY -/
set_option Elab.async false
set_option linter.all false
set_option maxRecDepth 100000
set_option maxHeartbeats 2000000
namespace Fw
open PySem PySem.Spec PyProof.Rows L2 FwZ

/-! ### zip -/
def IsZipB (st : Bool) (h : Heap) (z TI TO : Addr) (f0 : Value) : Prop := h.get? z = some { cls := .type "zip", data := .fields #[f0, .bool false, .bool st, .ref TI, .ref TO] }
def ItzK (K : PySem.W.Frag) (st : Bool) (k1 k2 : IK) (a b : Addr) : It :=
  ⟨fun i H => ∃ (xs ys : List V) (x y : V), SqK K H k1 a xs ∧ SqK K H k2 b ys ∧ xs[i]? = some x ∧ ys[i]? = some y,
    fun i H v H' => ∃ T x y, v = .ref T ∧ H T = none ∧ H' = upd H T (.tup [x, y]) ∧ (∀ xs, SqK K H k1 a xs → xs[i]? = some x) ∧ ∀ ys, SqK K H k2 b ys → ys[i]? = some y,
    fun i H => ∃ xs ys : List V, SqK K H k1 a xs ∧ SqK K H k2 b ys ∧ (xs.length ≤ i ∨ ys.length ≤ i) ∧ (st = true → xs.length ≤ i ∧ ys.length ≤ i)⟩
theorem turn_zipK {P : Program} {w : World} {K : PySem.W.Frag} {elts : List Expr} {kk : Nat} {tpos : Pos} (st : Bool) (k1 k2 : IK) {a b z TI TO i1 i2 : Addr} (S : ZipSep2 z TI TO i1 i2 [i1, a] [i2, b]) (hai : a ≠ i1) (hbi : b ≠ i2) :
    Turn P w K (.Tuple elts kk tpos) (ItzK K st k1 k2 a b) [z, TI, TO, i1, i2] z (fun i h => IsZipB st h z TI TO .none ∧ IsTupOf2 h TI (.ref i1) (.ref i2) ∧ (∃ x y, IsTupOf2 h TO x y) ∧ IsK h k1 i1 a i ∧ IsK h k2 i2 b i) where
  mem := by simp
  obj := fun i h tn c hc => by
    obtain ⟨hz, hTI, ⟨x, y, hTO⟩, h1, h2⟩ := tn
    have e' : c = z ∨ c = TI ∨ c = TO ∨ c = i1 ∨ c = i2 := by simpa using hc
    rcases e' with q | q | q | q | q
    · rw [q]; exact ⟨_, hz, fun v q => nomatch q⟩
    · rw [q]; exact ⟨_, hTI, fun v q => nomatch q⟩
    · rw [q]; exact ⟨_, hTO, fun v q => nomatch q⟩
    · rw [q]; exact h1.obj
    · rw [q]; exact h2.obj
  keep := fun i h h' tn k => by
    obtain ⟨hz, hTI, ⟨x, y, hTO⟩, h1, h2⟩ := tn
    exact ⟨k z (by simp) _ hz, k TI (by simp) _ hTI, ⟨x, y, k TO (by simp) _ hTO⟩, h1.at fun o q => k i1 (by simp) o q, h2.at fun o q => k i2 (by simp) o q⟩
  item := by
    intro X hP hw hK hc i pins s σ H E I hf tn hg
    subst hP hw hK
    obtain ⟨hz, hTI, ⟨x0, y0, hTO⟩, h1, h2⟩ := tn
    obtain ⟨xs, ys, x, y, hqx, hqy, hx, hy⟩ := hg
    obtain ⟨its, rv, p, _⟩ := inv_sqK I hqx
    obtain ⟨its2, rv2, p2, _⟩ := inv_sqK I hqy
    obtain ⟨u, hu, ru⟩ := rv.get hx
    obtain ⟨u2, hu2, ru2⟩ := rv2.get hy
    have hzl : z < s.heap.objs.size := Heap.lt_size hz
    have hlt : i < its.toArray.size := by simpa using (List.getElem?_eq_some_iff.mp hu).1
    have hlt2 : i < its2.toArray.size := by simpa using (List.getElem?_eq_some_iff.mp hu2).1
    have D1 := drawsK (prog := X.prog) (w := X.w) (A := X.A.in1) (show X.A.in1.handled = none from I.ok.hd hc) k1 i1 a hai its
    have D2 := drawsK (prog := X.prog) (w := X.w) (A := X.A.in1) (show X.A.in1.handled = none from I.ok.hd hc) k2 i2 b hbi its2
    have main : ∀ (h' : Heap) (tk : Nat) (x1 x2 : Value), its.toArray[i]? = some x1 → its2.toArray[i]? = some x2 → IsK h' k1 i1 a (i + 1) → IsK h' k2 i2 b (i + 1) → IsTupOf2 h' TO x1 x2 → IsTupOf2 h' s.heap.objs.size x1 x2 →
        (∀ c o, c ≠ z → c ≠ TO → c ≠ i1 → c ≠ i2 → s.heap.get? c = some o → h'.get? c = some o) → ∀ h'', IsZipB st h'' z TI TO .none → Heap.SameBut z h' h'' →
        ∃ x H', Inv X pins σ H' { s with heap := h'', toks := tk } ∧ RelV x (.ref s.heap.objs.size) ∧ (ItzK X.K st k1 k2 a b).yld i H x H' ∧ (IsZipB st h'' z TI TO .none ∧ IsTupOf2 h'' TI (.ref i1) (.ref i2) ∧ (∃ x y, IsTupOf2 h'' TO x y) ∧ IsK h'' k1 i1 a (i + 1) ∧ IsK h'' k2 i2 b (i + 1)) ∧ ∀ b ∈ [z, TI, TO, i1, i2], H' b = none := by
      intro h' tk x1 x2 hx1 hx2 h1' h2' TO' hT hk h'' z'' sb
      have e1 : x1 = u := by
        have : its[i]? = some x1 := by simpa using hx1
        rw [hu] at this
        exact (Option.some.inj this).symm
      have e2 : x2 = u2 := by
        have : its2[i]? = some x2 := by simpa using hx2
        rw [hu2] at this
        exact (Option.some.inj this).symm
      subst e1 e2
      have hT2 : h''.get? s.heap.objs.size = some { cls := .type "tuple", data := .seq #[x1, x2] } := (sb.2 _ (Nat.ne_of_gt hzl)).trans hT
      have new : ObjOk X.prog X.w (upd H s.heap.objs.size (.tup [x, y])) h'' s.heap.objs.size (.tup [x, y]) :=
        ⟨by show 2 ≤ sizeLine; decide, [x1, x2], .cons ru (.cons ru2 .nil), ⟨_, hT2, rfl, _, rfl⟩⟩
      have I1 : Inv X pins σ (upd H s.heap.objs.size (.tup [x, y])) { s with heap := h'', toks := tk } :=
        I.turnedNew (t' := tk) (ch := [z, TI, TO, i1, i2]) (fun c o hb q => (sb.2 c (fun q' => hb (by simp [q']))).trans (hk c o (fun q' => hb (by simp [q'])) (fun q' => hb (by simp [q'])) (fun q' => hb (by simp [q'])) (fun q' => hb (by simp [q'])) q)) hf (Nat.le_refl _) new
      refine ⟨.ref s.heap.objs.size, _, I1, rfl, ⟨_, x, y, rfl, I.hok.fresh (Nat.le_refl _), rfl, fun l hl => by rw [sqK_inj I hl hqx]; exact hx, fun l hl => by rw [sqK_inj I hl hqy]; exact hy⟩, ⟨z'', ?_, ⟨x1, x2, ?_⟩, ?_, ?_⟩, fun c hcm => ?_⟩
      · exact (sb.2 _ S.TIz).trans (hk _ _ S.TIz S.TITO S.TIi1 S.TIi2 hTI)
      · exact (sb.2 _ S.TOz).trans TO'
      · exact h1'.at fun o q => (sb.2 _ S.zi1.symm).trans q
      · exact h2'.at fun o q => (sb.2 _ S.zi2.symm).trans q
      · have hlt : c < s.heap.objs.size := by
          have e' : c = z ∨ c = TI ∨ c = TO ∨ c = i1 ∨ c = i2 := by simpa using hcm
          rcases e' with q | q | q | q | q
          · rw [q]; exact hzl
          · rw [q]; exact Heap.lt_size hTI
          · rw [q]; exact Heap.lt_size hTO
          · rw [q]; exact h1.lt
          · rw [q]; exact h2.lt
        rw [upd_ne (Nat.ne_of_lt hlt)]
        exact (hf c hcm).1
    cases st with
    | false =>
      refine wpAny_pyNext_zipD2_item S D1 D2 hz hTI hTO ⟨h1, p⟩ ⟨h2, p2⟩ hlt hlt2 fun x1 x2 h' tk hx1 hx2 z' TO' b1 b2 hT hsz hk => ?_
      exact ⟨_, rfl, wpAny_letOwnedTupleGo_zip (s := { s with heap := h', toks := tk }) z' fun h'' z'' sb => main h' tk x1 x2 hx1 hx2 b1.1 b2.1 TO' hT hk h'' z'' sb⟩
    | true =>
      refine pyNext_zipS_item S D1 D2 hz hTI hTO ⟨h1, p⟩ ⟨h2, p2⟩ hlt hlt2 fun x1 x2 h' tk hx1 hx2 z' TO' b1 b2 hT hsz hk => ?_
      exact ⟨_, rfl, letGo_zipS (s := { s with heap := h', toks := tk }) z' fun h'' z'' sb => main h' tk x1 x2 hx1 hx2 b1.1 b2.1 TO' hT hk h'' z'' sb⟩
  done := by
    intro X hP hw hK hc i pins s σ H E I hf tn hg
    subst hP hw hK
    obtain ⟨hz, hTI, ⟨x0, y0, hTO⟩, h1, h2⟩ := tn
    obtain ⟨xs, ys, hqx, hqy, hend, hst⟩ := hg
    obtain ⟨its, rv, p, _⟩ := inv_sqK I hqx
    obtain ⟨its2, rv2, p2, _⟩ := inv_sqK I hqy
    have l1 := rv.length
    have l2 := rv2.length
    have hh : X.A.in1.handled = none := I.ok.hd hc
    have fin : ∀ (h' : Heap) (tk : Nat), (∀ c o, c ≠ z → c ≠ TO → c ≠ i1 → c ≠ i2 → s.heap.get? c = some o → h'.get? c = some o) → (none : Option Value) = none ∧ Inv X pins σ H { s with heap := h', toks := tk } := fun h' tk hk =>
      ⟨rfl, I.turnedL (t' := tk) (ch := [z, TI, TO, i1, i2]) (fun c o hb q => hk c o (fun q' => hb (by simp [q'])) (fun q' => hb (by simp [q'])) (fun q' => hb (by simp [q'])) (fun q' => hb (by simp [q'])) q) hf⟩
    cases st with
    | false =>
      by_cases c1 : its.length ≤ i
      · by_cases c2 : its2.length ≤ i
        · exact wpAny_pyNext_zipD2_end S (drawsE hh k1 i1 a its i c1) (drawsE hh k2 i2 b its2 i c2) hz hTI hTO ⟨rfl, h1, p⟩ ⟨rfl, h2, p2⟩ (Nat.le_refl _) (Nat.le_refl _) (.inl rfl) fin
        · exact wpAny_pyNext_zipD2_end S (drawsE hh k1 i1 a its i c1) (drawsK hh k2 i2 b hbi its2) hz hTI hTO ⟨rfl, h1, p⟩ ⟨h2, p2⟩ (Nat.le_refl _) (by simp; omega) (.inl rfl) fin
      · have c2 : its2.length ≤ i := by omega
        exact wpAny_pyNext_zipD2_end S (drawsK hh k1 i1 a hai its) (drawsE hh k2 i2 b its2 i c2) hz hTI hTO ⟨h1, p⟩ ⟨rfl, h2, p2⟩ (by simp; omega) (Nat.le_refl _) (.inr rfl) fin
    | true =>
      obtain ⟨c1, c2⟩ := hst rfl
      exact pyNext_zipS_end hh S (drawsE hh k1 i1 a its i (by omega)) (drawsE hh k2 i2 b its2 i (by omega)) hz hTI hTO ⟨rfl, h1, p⟩ ⟨rfl, h2, p2⟩ fin
  self := fun A i s Q E tn h => by
    cases st with
    | false => exact wpAny_pyIter_zip tn.1 h
    | true => exact pyIter_zipS tn.1 h

/-! ### their calls -/
set_option maxHeartbeats 1000000 in
theorem meets_enum1 {v : Value} {o : Obj} {H : Heap → Prop} (B : Begins v o H) :
    Meets (Builtin.«enumerate.__new__» ⟨[.type "enumerate", v], []⟩) (fun _ R s => H s.heap ∧
      R (.ok (.ret (.ref (s.heap.push o).objs.size))) { s with heap := (s.heap.push o).push { cls := .type "enumerate", data := .fields #[.none, .bool false, .ref s.heap.objs.size, rawInt 0, .none, .none] } }) :=
  .of_wp fun prog w A R s h => by
    obtain ⟨hp, g, d, tk, os⟩ := s; obtain ⟨h1, h⟩ := h
    have hsub := sub_enumerate
    have q1 : ∀ {A' : Around} {E : Value → Shared → Prop} {Q : Value → Shared → Prop}, Q (.ref hp.objs.size) ⟨hp.push o, g, d, tk, os⟩ → wpAny (model prog w) A' (pyIter v) Q E ⟨hp, g, d, tk, os⟩ :=
      fun q => B.iter prog w _ _ ⟨hp, g, d, tk, os⟩ _ h1 q
    wp_walk using q1
    refine wpAny_stack_any fun st => wpAny_pure ?_
    split
    · rename_i c _ _ _ _ _
      cases (c == Value.type "enumerate")
      · wp_walk using q1
        exact ⟨_, rfl, h⟩
      · wp_walk using q1
        exact ⟨_, rfl, h⟩
    · wp_walk using q1
      exact ⟨_, rfl, h⟩
section
variable {prog : Program} {w : World} {A : Around} {E : Value → Shared → Prop} {s : Shared}
theorem enum_begins1 {v : Value} {o : Obj} {H : Heap → Prop} {Q : Value → Shared → Prop} (B : Begins v o H) (h1 : H s.heap)
    (h : ∀ h', IsEnum h' (s.heap.objs.size + 1) s.heap.objs.size 0 .none → h'.get? s.heap.objs.size = some o → h'.objs.size = s.heap.objs.size + 2 →
      (∀ b o, s.heap.get? b = some o → h'.get? b = some o) → Q (.ref (s.heap.objs.size + 1)) { s with heap := h' }) :
    wpAny (model prog w) A (call (.type "enumerate") [v]) Q E s := by
  refine callType_new F.called_enumerate (by decide) (F.typeCall_enumerate_1 _) (F.newCall_enumerate_1 _) (fun obj => F.args_object_init_2 obj _) F.entry_enumerate_new
    (meets_enum1 B) ⟨h1, ?_⟩
  have hz : (s.heap.push o).objs.size = s.heap.objs.size + 1 := Heap.size_push ..
  show _ ∧ _
  rw [hz]
  have he : IsEnum ((s.heap.push o).push { cls := .type "enumerate", data := .fields #[.none, .bool false, .ref s.heap.objs.size, rawInt 0, .none, .none] }) (s.heap.objs.size + 1) s.heap.objs.size 0 .none := by
    have := Heap.get?_push_size (s.heap.push o) (o := { cls := .type "enumerate", data := .fields #[.none, .bool false, .ref s.heap.objs.size, rawInt 0, .none, .none] }) rfl
    rw [hz] at this; exact this
  exact ⟨⟨_, he, rfl⟩, h _ he (Heap.get?_push_of_some _ (Heap.get?_push_size _ B.free)) (by rw [Heap.size_push, hz]) fun b o y => Heap.get?_push_of_some _ (Heap.get?_push_of_some _ y)⟩
end
def iEnumA (K : PySem.W.Frag) (ta : TA) : TI := fun σ H R => ta σ H fun vs H1 => ∃ k a xs, vs = [.ref a] ∧ SqK K H1 k a xs ∧ R (IteK K k a) H1
theorem pi_enumA {X : Cx} {e : Expr} {ta : TA} {p pos tpos : Pos} {elts : List Expr} {kk : Nat} (hg : Gl X "enumerate") (hm : X.mg "enumerate" = none) (ha : PA X [e] ta) (hs : starEach [e] X.env = [(false, eval e X.env)] := by rfl) :
    PI X (.Tuple elts kk tpos) (.Call (.Name "enumerate" p) [e] [] pos) (iEnumA X.K ta) := by
  refine ⟨fun pins s σ H R I h => ?_⟩
  refine Call_ (ld_blt I hg hm boot_enumerate (PyProof.Rows.callWith_type1 (thn (ha.run pos pins s σ H _ I h) fun us s1 ⟨vs, H1, I1, r1, q1⟩ => ?_) hs rfl))
  obtain ⟨k, a, xs, ex, hq, q⟩ := q1
  subst ex
  cases r1 with
  | cons r rr =>
    cases rr
    cases r
    obtain ⟨its, rv, p', hz⟩ := inv_sqK I1 hq
    refine enum_begins1 (beginsK k a its) p' fun h' he hit hsz hk => wpAny_pyIter_enum he ?_
    have I2 : Inv X pins σ H1 { s1 with heap := h' } := I1.kept (t' := s1.toks) hk
    have hlt : a < s1.heap.objs.size := p'.lt
    refine ⟨s1.heap.objs.size + 1, [s1.heap.objs.size + 1, s1.heap.objs.size], _, _, H1, rfl, I2, turn_enumK k a (s1.heap.objs.size + 1) s1.heap.objs.size, ⟨⟨.none, he⟩, .new hit, Nat.succ_ne_self _, Nat.ne_of_lt hlt, Nat.ne_of_lt (Nat.lt_succ_of_lt hlt)⟩, fun b hb => ?_, q⟩
    have e' : b = s1.heap.objs.size + 1 ∨ b = s1.heap.objs.size := by simpa using hb
    have hle : s1.heap.objs.size ≤ b := by
      rcases e' with z | z
      · rw [z]; exact Nat.le_add_right _ _
      · rw [z]; exact Nat.le_refl _
    exact I1.fpOk hle (I1.hok.fresh hle)
def iZipK (K : PySem.W.Frag) (st : Bool) (ta : TA) : TI := fun σ H R => ta σ H fun vs H1 => ∃ k1 k2 a b xs ys, vs = [.ref a, .ref b] ∧ SqK K H1 k1 a xs ∧ SqK K H1 k2 b ys ∧ R (ItzK K st k1 k2 a b) H1
theorem zip_fresh {X : Cx} {pins : List (Addr × Obj)} {σ : L2.St} {H : Hp} {s : Shared} (I : Inv X pins σ H s) : ∀ c, c ∈ [s.heap.objs.size + 4, s.heap.objs.size + 2, s.heap.objs.size + 3, s.heap.objs.size, s.heap.objs.size + 1] → FpOk X pins H c := fun c hcm => by
  have e' : c = s.heap.objs.size + 4 ∨ c = s.heap.objs.size + 2 ∨ c = s.heap.objs.size + 3 ∨ c = s.heap.objs.size ∨ c = s.heap.objs.size + 1 := by simpa using hcm
  have hle : s.heap.objs.size ≤ c := by
    rcases e' with z | z | z | z | z
    · rw [z]; exact Nat.le_add_right _ _
    · rw [z]; exact Nat.le_add_right _ _
    · rw [z]; exact Nat.le_add_right _ _
    · rw [z]; exact Nat.le_refl _
    · rw [z]; exact Nat.le_add_right _ _
  exact I.fpOk hle (I.hok.fresh hle)
theorem pi_zipA {X : Cx} {e e2 : Expr} {ta : TA} {p pos tpos : Pos} {elts : List Expr} {kk : Nat} (hg : Gl X "zip") (hm : X.mg "zip" = none) (ha : PA X [e, e2] ta)
    (hs : starEach [e, e2] X.env = (false, eval e X.env) :: starEach [e2] X.env := by rfl) (hpl : (backTo pos (starEach [e2] X.env)).any (·.1) = false := by rfl) :
    PI X (.Tuple elts kk tpos) (.Call (.Name "zip" p) [e, e2] [] pos) (iZipK X.K false ta) := by
  refine ⟨fun pins s σ H R I h => ?_⟩
  refine Call_ (ld_blt I hg hm PyProof.Rows.boot_zip (PyProof.Rows.callWith_type1 (thn (ha.run pos pins s σ H _ I h) fun us s1 ⟨vs, H1, I1, r1, q1⟩ => ?_) hs hpl))
  obtain ⟨k1, k2, a, b, xs, ys, ex, hqx, hqy, q⟩ := q1
  subst ex
  cases r1 with
  | cons r rr =>
    cases rr with
    | cons r' rr =>
      cases rr
      cases r
      cases r'
      obtain ⟨its, rv, p1, _⟩ := inv_sqK I1 hqx
      obtain ⟨its2, rv2, p2, _⟩ := inv_sqK I1 hqy
      refine zip_begins2 (beginsK k1 a its) (beginsK k2 b its2) p1 p2 fun h' hz hTI hTO h1 h2 hsz hk => wpAny_pyIter_zip hz ?_
      have I2 : Inv X pins σ H1 { s1 with heap := h' } := I1.kept (t' := s1.toks) hk
      exact ⟨s1.heap.objs.size + 4, [s1.heap.objs.size + 4, s1.heap.objs.size + 2, s1.heap.objs.size + 3, s1.heap.objs.size, s1.heap.objs.size + 1], _, _, H1, rfl, I2, turn_zipK false k1 k2 (sepK p1.lt p2.lt) (Nat.ne_of_lt p1.lt) (Nat.ne_of_lt (Nat.lt_succ_of_lt p2.lt)), ⟨hz, hTI, ⟨_, _, hTO⟩, .new h1, .new h2⟩, zip_fresh I1, q⟩
section
variable {M : Model} {A : Around} {E : Value → Shared → Prop} {s : Shared} {env : PySem.Env}
theorem callWith_typeKw {pos : Pos} {T : String} {e : Expr} {rest : List Expr} {kws : List Keyword} {Q : Value → Shared → Prop}
    (h : wpAny M A (spliced (backTo pos (starEach (e :: rest) env))) (fun vs s₁ => wpAny M A (evalAll ((backToKw pos (keywordEach kws env)).map (·.2)))
      (fun kvs s₂ => wpAny M A (call (.type T) vs (((backToKw pos (keywordEach kws env)).filterMap (·.1)).zip kvs)) Q E s₂) E s₁) E s)
    (he : backTo pos (starEach (e :: rest) env) = (false, eval e env) :: backTo pos (starEach rest env) := by rfl)
    (hplain : (backTo pos (starEach (e :: rest) env)).any (·.1) = false := by rfl)
    (hall : (backToKw pos (keywordEach kws env)).all (·.1.isSome) = true := by rfl)
    (hkw : (backToKw pos (keywordEach kws env)).any (·.1.isNone) = false := by rfl) :
    wpAny M A (callWith pos (.type T) [] (backTo pos (starEach (e :: rest) env)) (backToKw pos (keywordEach kws env))) Q E s := by
  unfold callWith
  rw [he] at h hplain ⊢
  refine wpAny_bind (wpAny_holding (wpAny_mono (evalArgs_kwB (Q := fun a s₁ => wpAny M A (call (.type T) ([] ++ a.pos) a.kw) Q E s₁) hall h) (fun a s₁ h₁ => wpAny_bind (wpAny_standAt ?_)) fun _ _ x => x))
  simp only [hplain, hkw, Bool.or_false]
  refine wpAny_bind (wpAny_pure ?_)
  exact wpAny_bind (wpAny_mono h₁ (fun r s₂ hr => wpAny_bind (wpAny_holding (wpAny_point (wpAny_pure hr)))) fun _ _ x => x)
end
theorem pi_zipS {X : Cx} {e e2 : Expr} {ta : TA} {p pos tpos cpos kp : Pos} {j} {elts : List Expr} {kk : Nat} (hg : Gl X "zip") (hm : X.mg "zip" = none) (ha : PA X [e, e2] ta)
    (he : backTo pos (starEach [e, e2] X.env) = (false, eval e X.env) :: backTo pos (starEach [e2] X.env) := by rfl) (hpl : (backTo pos (starEach [e, e2] X.env)).any (·.1) = false := by rfl) :
    PI X (.Tuple elts kk tpos) (.Call (.Name "zip" p) [e, e2] [⟨some "strict", .Constant (.bool true) j cpos, kp⟩] pos) (iZipK X.K true ta) := by
  refine ⟨fun pins s σ H R I h => ?_⟩
  refine wpAny_Call_Name_kw (ld_blt I hg hm PyProof.Rows.boot_zip ?_)
  refine callWith_typeKw (thn (ha.run pos pins s σ H _ I h) fun us s1 ⟨vs, H1, I1, r1, q1⟩ => kws_cons (Constant_bool (kws_nil ?_))) he hpl
  obtain ⟨k1, k2, a, b, xs, ys, ex, hqx, hqy, q⟩ := q1
  subst ex
  cases r1 with
  | cons r rr =>
    cases rr with
    | cons r' rr =>
      cases rr
      cases r
      cases r'
      obtain ⟨its, rv, p1, _⟩ := inv_sqK I1 hqx
      obtain ⟨its2, rv2, p2, _⟩ := inv_sqK I1 hqy
      refine zipS_begins2 (beginsK k1 a its) (beginsK k2 b its2) p1 p2 fun h' hz hTI hTO h1 h2 hsz hk => pyIter_zipS hz ?_
      have I2 : Inv X pins σ H1 { s1 with heap := h' } := I1.kept (t' := s1.toks) hk
      exact ⟨s1.heap.objs.size + 4, [s1.heap.objs.size + 4, s1.heap.objs.size + 2, s1.heap.objs.size + 3, s1.heap.objs.size, s1.heap.objs.size + 1], _, _, H1, rfl, I2, turn_zipK true k1 k2 (sepK p1.lt p2.lt) (Nat.ne_of_lt p1.lt) (Nat.ne_of_lt (Nat.lt_succ_of_lt p2.lt)), ⟨hz, hTI, ⟨_, _, hTO⟩, .new h1, .new h2⟩, zip_fresh I1, q⟩

/-! ### their meaning -/
theorem Dv.itemsK {F : Hp} {K : PySem.W.Frag} {v : V} {d : D} {ds : List D} (h : Dv K F v d) (e : items? d = some ds) : ∃ k a xs, v = .ref a ∧ SqK K F k a xs ∧ Dvs K F xs ds ∧ xs.length ≤ sizeLine := by
  cases h <;> simp only [items?, Option.some.injEq, reduceCtorEq] at e
  · rename_i a xs ds' g1 z1 r1
    subst e
    exact ⟨.l, a, xs, rfl, .of g1, r1, z1⟩
  · rename_i a xs ds' g1 z1 r1
    subst e
    exact ⟨.t, a, xs, rfl, g1, r1, z1⟩
theorem Sub.sqK {K : PySem.W.Frag} {H H' : Hp} {k : IK} {a : Addr} {xs : List V} (e : Sub H H') (h : SqK K H k a xs) : SqK K H' k a xs := by
  cases k
  · rcases h with (h | ⟨o, h⟩) | h
    · exact .inl (.inl (e _ _ h))
    · exact .inl (.inr ⟨o, e _ _ h⟩)
    · exact .inr h
  · exact e.seqT h
theorem enumL_len : ∀ (ds : List D) (j : Nat), (enumL j ds).length = ds.length
  | [], _ => rfl
  | d :: r, j => by simp only [enumL, List.length_cons, enumL_len r]
theorem enumL_get : ∀ (ds : List D) (j i : Nat) {d : D}, (enumL j ds)[i]? = some d → ∃ d', ds[i]? = some d' ∧ d = .tup [.int ((j + i : Nat) : Int), d']
  | [], j, i, d, h => by simp [enumL] at h
  | e :: r, j, 0, d, h => by
    simp only [enumL, List.getElem?_cons_zero, Option.some.injEq] at h
    exact ⟨e, rfl, h.symm⟩
  | e :: r, j, i + 1, d, h => by
    simp only [enumL, List.getElem?_cons_succ] at h
    obtain ⟨d', h1, h2⟩ := enumL_get r (j + 1) i h
    refine ⟨d', by simpa using h1, ?_⟩
    rw [h2]
    congr 3
    omega
theorem zipL_len : ∀ (ds es : List D), (zipL ds es).length = min ds.length es.length
  | [], es => by simp [zipL]
  | d :: r, [] => by simp [zipL]
  | d :: r, e :: q => by simp only [zipL, List.length_cons, zipL_len r q]; omega
theorem zipL_get : ∀ (ds es : List D) (i : Nat) {d : D}, (zipL ds es)[i]? = some d → ∃ a b, ds[i]? = some a ∧ es[i]? = some b ∧ d = .tup [a, b]
  | [], es, i, d, h => by simp [zipL] at h
  | a :: r, [], i, d, h => by simp [zipL] at h
  | a :: r, b :: q, 0, d, h => by
    simp only [zipL, List.getElem?_cons_zero, Option.some.injEq] at h
    exact ⟨a, b, rfl, rfl, h.symm⟩
  | a :: r, b :: q, i + 1, d, h => by
    simp only [zipL, List.getElem?_cons_succ] at h
    obtain ⟨x, y, h1, h2, h3⟩ := zipL_get r q i h
    exact ⟨x, y, by simpa using h1, by simpa using h2, h3⟩
theorem dv_pair {K : PySem.W.Frag} {F : Hp} {T : Addr} {x y : V} {d e : D} (hT : F T = none) (h1 : Dv K F x d) (h2 : Dv K F y e) : Dv K (upd F T (.tup [x, y])) (.ref T) (.tup [d, e]) :=
  .tup (.inl (.inl upd_same)) (by show 2 ≤ sizeLine; decide) (.cons (h1.mono (.upd hT)) (.cons (h2.mono (.upd hT)) .nil))
section
variable {K : PySem.W.Frag} {W : Wd} {F F' : Hp}
theorem isIt_enum {k : IK} {a : Addr} {vs : List V} {ds : List D} (h : SqK K F k a vs) (r : Dvs K F vs ds) : IsIt K F (IteK K k a) (enumL 0 ds) := fun i H sub => by
  have hs : SqK K H k a vs := sub.sqK h
  refine ⟨fun hl => ⟨vs, hs, by rw [enumL_len] at hl; rw [r.length]; exact hl⟩, fun d hd => ?_⟩
  obtain ⟨d', h1, h2⟩ := enumL_get ds 0 i hd
  obtain ⟨v, h3, h4⟩ := r.get i h1
  refine ⟨⟨vs, v, hs, h3⟩, fun x H' hy => ?_⟩
  obtain ⟨T, y, e1, e2, e3, e4⟩ := hy
  have := e4 vs hs
  rw [h3] at this
  cases this
  subst e1 h2
  refine .inr ⟨T, _, e2, e3, ?_⟩
  have e5 : ((0 + i : Nat) : Int) = ((i : Nat) : Int) := by omega
  rw [e5]
  exact dv_pair (sub.none e2) (.int _) h4
theorem isIt_zip {st : Bool} {k1 k2 : IK} {a b : Addr} {vs ws : List V} {ds es : List D} (h : SqK K F k1 a vs) (r : Dvs K F vs ds) (h' : SqK K F k2 b ws) (r' : Dvs K F ws es) (hst : st = true → ds.length = es.length) :
    IsIt K F (ItzK K st k1 k2 a b) (zipL ds es) := fun i H sub => by
  have hs : SqK K H k1 a vs := sub.sqK h
  have hs' : SqK K H k2 b ws := sub.sqK h'
  refine ⟨fun hl => ⟨vs, ws, hs, hs', ?_, fun q => ?_⟩, fun d hd => ?_⟩
  · rw [zipL_len] at hl; rw [r.length, r'.length]; omega
  · have := hst q
    rw [zipL_len] at hl; rw [r.length, r'.length]; omega
  · obtain ⟨d1, d2, h1, h2, h3⟩ := zipL_get ds es i hd
    obtain ⟨v, v1, v2⟩ := r.get i h1
    obtain ⟨w, w1, w2⟩ := r'.get i h2
    refine ⟨⟨vs, ws, v, w, hs, hs', v1, w1⟩, fun x H' hy => ?_⟩
    obtain ⟨T, x', y', e1, e2, e3, e4, e5⟩ := hy
    have q1 := e4 vs hs
    rw [v1] at q1
    cases q1
    have q2 := e5 ws hs'
    rw [w1] at q2
    cases q2
    subst e1 h3
    exact .inr ⟨T, _, e2, e3, dv_pair (sub.none e2) v2 w2⟩
theorem si_enum {ta : TE} {fa : E W.S} (ha : SemE K W ta fa) : SemI K W (iEnumA K (tCons ta tNil)) (iEnum fa) := fun B F0 σ H F ρ s R ds ρ' s' e Q q => by
  unfold iEnum at e
  split at e
  · rename_i x ρ1 s1 h1
    split at e
    · rename_i ds1 h2
      cases e
      refine ha B F0 σ H F ρ s R _ _ _ h1 _ fun v H1 F1 R1 sub1 d1 => ?_
      obtain ⟨k, a, xs, rfl, g, r, z⟩ := d1.itemsK h2
      exact ⟨k, a, xs, rfl, R1.fh.sqK g, q _ H1 F1 R1 sub1 (by rw [enumL_len, ← r.length]; exact z) (isIt_enum g r)⟩
    · cases e
  · cases e
theorem si_zip {ta tb : TE} {fa fb : E W.S} (ha : SemE K W ta fa) (hb : SemE K W tb fb) : SemI K W (iZipK K false (tCons ta (tCons tb tNil))) (iZip fa fb) := fun B F0 σ H F ρ s R ds ρ' s' e Q q => by
  unfold iZip at e
  split at e
  · rename_i x ρ1 s1 h1
    split at e
    · rename_i y ρ2 s2 h2
      split at e
      · rename_i ds1 es1 g1 g2
        cases e
        refine ha B F0 σ H F ρ s R _ _ _ h1 _ fun v H1 F1 R1 sub1 d1 => ?_
        refine hb B F0 σ H1 F1 _ _ R1 _ _ _ h2 _ fun w H2 F2 R2 sub2 d2 => ?_
        obtain ⟨k, a, xs, rfl, g, r, z⟩ := (d1.mono sub2).itemsK g1
        obtain ⟨k', a', xs', rfl, g', r', z'⟩ := d2.itemsK g2
        exact ⟨k, k', a, a', xs, xs', rfl, R2.fh.sqK g, R2.fh.sqK g', q _ H2 F2 R2 (sub1.trans sub2) (by rw [zipL_len, ← r.length]; omega) (isIt_zip g r g' r' fun h => nomatch h)⟩
      · cases e
    · cases e
  · cases e
theorem si_zipS {ta tb : TE} {fa fb : E W.S} (ha : SemE K W ta fa) (hb : SemE K W tb fb) : SemI K W (iZipK K true (tCons ta (tCons tb tNil))) (iZipS fa fb) := fun B F0 σ H F ρ s R ds ρ' s' e Q q => by
  unfold iZipS at e
  split at e
  · rename_i x ρ1 s1 h1
    split at e
    · rename_i y ρ2 s2 h2
      split at e
      · rename_i ds1 es1 g1 g2
        split at e
        · rename_i hl
          cases e
          refine ha B F0 σ H F ρ s R _ _ _ h1 _ fun v H1 F1 R1 sub1 d1 => ?_
          refine hb B F0 σ H1 F1 _ _ R1 _ _ _ h2 _ fun w H2 F2 R2 sub2 d2 => ?_
          obtain ⟨k, a, xs, rfl, g, r, z⟩ := (d1.mono sub2).itemsK g1
          obtain ⟨k', a', xs', rfl, g', r', z'⟩ := d2.itemsK g2
          exact ⟨k, k', a, a', xs, xs', rfl, R2.fh.sqK g, R2.fh.sqK g', q _ H2 F2 R2 (sub1.trans sub2) (by rw [zipL_len, ← r.length]; omega) (isIt_zip g r g' r' fun _ => hl)⟩
        · cases e
      · cases e
    · cases e
  · cases e
end
end Fw
/-! ## FwX -/
set_option Elab.async false
set_option linter.all false
set_option maxRecDepth 100000
set_option maxHeartbeats 2000000
/-! max, min of a list or a tuple; reversed copies; * . -/
namespace Fw
open PySem PySem.Spec PyProof.Rows L2 FwZ HT

section
variable {prog : Program} {w : World} {A : Around} {E : Value → Shared → Prop} {s : Shared} {l : Addr} {its : List Value} {ns : List Int} {Q : Value → Shared → Prop}
theorem iter_tupV {its : Array Value} (hl : s.heap.IsTuple l its)
    (h : ∀ s₂ : Shared, s₂ = { s with heap := s.heap.push { cls := .type "tuple_iterator", data := .fields #[.ref l, .int 0 0] } } →
      (s₂.heap.IsTupleIter s.heap.objs.size l 0 ∧ s₂.heap.IsTuple l its) → (∀ b ∈ [s.heap.objs.size, l], b < s₂.heap.objs.size) → l ≠ s.heap.objs.size → Q (.ref s.heap.objs.size) s₂) :
    wpAny (model prog w) A (pyIter (.ref l)) Q E s := by
  have hlt : l < s.heap.objs.size := by obtain ⟨_, e, _⟩ := hl; exact Heap.lt_size e
  refine wpAny_pyIter_tuple hl (h _ rfl ⟨⟨_, Heap.get?_push_size _ rfl, rfl, rfl⟩, hl.push _⟩ (fun b hb => ?_) (Nat.ne_of_lt hlt))
  show b < (s.heap.push _).objs.size
  rw [Heap.size_push]
  rcases List.mem_cons.mp hb with rfl | hb
  · exact Nat.lt_succ_self _
  · rcases List.mem_cons.mp hb with rfl | hb
    · exact Nat.lt_succ_of_lt hlt
    · cases hb
theorem kept_one {h' : Heap} {o1 : Obj} (hk : ∀ b o, b ∉ [s.heap.objs.size] → (s.heap.push o1).get? b = some o → h'.get? b = some o) : ∀ b o, s.heap.get? b = some o → h'.get? b = some o := fun b o e =>
  hk b o (fun hm => absurd (List.mem_singleton.mp hm) (Nat.ne_of_lt (Heap.lt_size e))) (Heap.get?_push_of_some _ e)
theorem max_rawT (hh : A.handled = none) (hl : s.heap.IsTuple l its.toArray) (hi : IntsAre its ns) (hne : 0 < ns.length)
    (h : ∀ h' tk M t', (∀ b o, s.heap.get? b = some o → h'.get? b = some o) → M ∈ ns → (∀ a, a ∈ ns → a ≤ M) → Q (.int M t') { s with heap := h', toks := tk }) : wpAny (model prog w) A (call (.builtin "max") [.ref l]) Q E s := by
  obtain ⟨xs, e⟩ := hi.allInts.items
  have hn : numsOf (intItems xs).toList = ns := by rw [← e]; exact hi.numsOf
  rw [nums_intItems] at hn
  subst hn
  rw [e] at hl
  have hsz : 0 < xs.size := by simpa using hne
  refine call_max_walk (iter_tupV hl fun s₂ e2 st hfp hlI => ?_)
  subst e2
  refine ⟨_, _, _, _, _, _, _, rfl, Walks.tuple (A := A.in1) hh _ l hlI (intItems xs), st, hfp, by simpa [intItems] using hsz, CmpOf.ints_gt (numAt xs) (fun _ _ => intItems_at), fun v h' tk hP hk => ?_⟩
  have hv : (intItems xs)[argBest (fun i j => decide (numAt xs i > numAt xs j)) (xs.size - 1)]? = some v := by simpa [intItems] using hP
  obtain ⟨t, rfl⟩ := intItems_at hv
  obtain ⟨h1, h2⟩ := argBest_gt (numAt xs) (xs.size - 1)
  refine h h' tk _ t (kept_one hk) ?_ fun a ha => ?_
  · rw [numAt_eq]; exact PySem.getD_mem (by rw [List.length_map, Array.length_toList]; omega)
  · obtain ⟨j, hj, rfl⟩ := mem_getD ha
    rw [List.length_map, Array.length_toList] at hj
    rw [← numAt_eq]; exact h2 j (by omega)
theorem min_rawT (hh : A.handled = none) (hl : s.heap.IsTuple l its.toArray) (hi : IntsAre its ns) (hne : 0 < ns.length)
    (h : ∀ h' tk M t', (∀ b o, s.heap.get? b = some o → h'.get? b = some o) → M ∈ ns → (∀ a, a ∈ ns → M ≤ a) → Q (.int M t') { s with heap := h', toks := tk }) : wpAny (model prog w) A (call (.builtin "min") [.ref l]) Q E s := by
  obtain ⟨xs, e⟩ := hi.allInts.items
  have hn : numsOf (intItems xs).toList = ns := by rw [← e]; exact hi.numsOf
  rw [nums_intItems] at hn
  subst hn
  rw [e] at hl
  have hsz : 0 < xs.size := by simpa using hne
  refine call_min_walk (iter_tupV hl fun s₂ e2 st hfp hlI => ?_)
  subst e2
  refine ⟨_, _, _, _, _, _, _, rfl, Walks.tuple (A := A.in1) hh _ l hlI (intItems xs), st, hfp, by simpa [intItems] using hsz, CmpOf.ints_lt (numAt xs) (fun _ _ => intItems_at), fun v h' tk hP hk => ?_⟩
  have hv : (intItems xs)[argBest (fun i j => decide (numAt xs i < numAt xs j)) (xs.size - 1)]? = some v := by simpa [intItems] using hP
  obtain ⟨t, rfl⟩ := intItems_at hv
  obtain ⟨h1, h2⟩ := argBest_lt (numAt xs) (xs.size - 1)
  refine h h' tk _ t (kept_one hk) ?_ fun a ha => ?_
  · rw [numAt_eq]; exact PySem.getD_mem (by rw [List.length_map, Array.length_toList]; omega)
  · obtain ⟨j, hj, rfl⟩ := mem_getD ha
    rw [List.length_map, Array.length_toList] at hj
    rw [← numAt_eq]; exact h2 j (by omega)
end
def rMaxA (K : PySem.W.Frag) : List V → Hp → VK → Prop := fun vs H Q => ∃ (k : IK) (a : Addr) (ns : List Int), vs = [V.ref a] ∧ SqK K H k a (ns.map V.int) ∧ 0 < ns.length ∧ ∀ m, m ∈ ns → (∀ y, y ∈ ns → y ≤ m) → Q (.int m) H
def rMinA (K : PySem.W.Frag) : List V → Hp → VK → Prop := fun vs H Q => ∃ (k : IK) (a : Addr) (ns : List Int), vs = [V.ref a] ∧ SqK K H k a (ns.map V.int) ∧ 0 < ns.length ∧ ∀ m, m ∈ ns → (∀ y, y ∈ ns → m ≤ y) → Q (.int m) H
section
variable {X : Cx}
theorem cr_maxA (hc : X.calm = true) : CallR X (.builtin "max") (rMaxA X.K) := by
  intro pins s σ H vs us Q I r h
  obtain ⟨k, a, ns, rfl, hs, hne, q⟩ := h
  obtain ⟨its, rv, hl, _⟩ := inv_sqK I hs
  rw [Vals.ref1 r]
  cases k
  · exact max_raw (I.ok.hd hc) hl rv.ints hne fun h' tk m t' hk h1 h2 => ⟨.int _, H, I.kept hk, ⟨_, rfl⟩, q m h1 h2⟩
  · exact max_rawT (I.ok.hd hc) hl rv.ints hne fun h' tk m t' hk h1 h2 => ⟨.int _, H, I.kept hk, ⟨_, rfl⟩, q m h1 h2⟩
theorem cr_minA (hc : X.calm = true) : CallR X (.builtin "min") (rMinA X.K) := by
  intro pins s σ H vs us Q I r h
  obtain ⟨k, a, ns, rfl, hs, hne, q⟩ := h
  obtain ⟨its, rv, hl, _⟩ := inv_sqK I hs
  rw [Vals.ref1 r]
  cases k
  · exact min_raw (I.ok.hd hc) hl rv.ints hne fun h' tk m t' hk h1 h2 => ⟨.int _, H, I.kept hk, ⟨_, rfl⟩, q m h1 h2⟩
  · exact min_rawT (I.ok.hd hc) hl rv.ints hne fun h' tk m t' hk h1 h2 => ⟨.int _, H, I.kept hk, ⟨_, rfl⟩, q m h1 h2⟩
end
theorem foldl_max_ge : ∀ (r : List Int) (x : Int), x ≤ r.foldl max x ∧ ∀ y ∈ r, y ≤ r.foldl max x
  | [], x => ⟨Int.le_refl _, fun _ h => nomatch h⟩
  | z :: r, x => by
    obtain ⟨h1, h2⟩ := foldl_max_ge r (max x z)
    simp only [List.foldl_cons]
    refine ⟨by omega, fun y hy => ?_⟩
    rcases List.mem_cons.mp hy with e | hy
    · subst e; omega
    · exact h2 y hy
theorem foldl_max_mem : ∀ (r : List Int) (x : Int), r.foldl max x = x ∨ r.foldl max x ∈ r
  | [], x => .inl rfl
  | z :: r, x => by
    simp only [List.foldl_cons]
    rcases foldl_max_mem r (max x z) with h | h
    · rcases Int.le_total x z with q | q
      · right; rw [h, Int.max_eq_right q]; exact List.mem_cons_self ..
      · left; rw [h, Int.max_eq_left q]
    · exact .inr (List.mem_cons_of_mem _ h)
theorem foldl_min_le : ∀ (r : List Int) (x : Int), r.foldl min x ≤ x ∧ ∀ y ∈ r, r.foldl min x ≤ y
  | [], x => ⟨Int.le_refl _, fun _ h => nomatch h⟩
  | z :: r, x => by
    obtain ⟨h1, h2⟩ := foldl_min_le r (min x z)
    simp only [List.foldl_cons]
    refine ⟨by omega, fun y hy => ?_⟩
    rcases List.mem_cons.mp hy with e | hy
    · subst e; omega
    · exact h2 y hy
theorem foldl_min_mem : ∀ (r : List Int) (x : Int), r.foldl min x = x ∨ r.foldl min x ∈ r
  | [], x => .inl rfl
  | z :: r, x => by
    simp only [List.foldl_cons]
    rcases foldl_min_mem r (min x z) with h | h
    · rcases Int.le_total x z with q | q
      · left; rw [h, Int.min_eq_left q]
      · right; rw [h, Int.min_eq_right q]; exact List.mem_cons_self ..
    · exact .inr (List.mem_cons_of_mem _ h)
theorem maxL_ge {is : List Int} {y : Int} (h : y ∈ is) : y ≤ maxL is := by
  cases is with
  | nil => cases h
  | cons x r =>
    obtain ⟨h1, h2⟩ := foldl_max_ge r x
    rcases List.mem_cons.mp h with e | h
    · subst e; exact h1
    · exact h2 y h
theorem minL_le {is : List Int} {y : Int} (h : y ∈ is) : minL is ≤ y := by
  cases is with
  | nil => cases h
  | cons x r =>
    obtain ⟨h1, h2⟩ := foldl_min_le r x
    rcases List.mem_cons.mp h with e | h
    · subst e; exact h1
    · exact h2 y h
theorem maxL_mem {is : List Int} (h : 0 < is.length) : maxL is ∈ is := by
  cases is with
  | nil => cases h
  | cons x r =>
    rcases foldl_max_mem r x with e | e
    · show r.foldl max x ∈ _
      rw [e]; exact List.mem_cons_self ..
    · exact List.mem_cons_of_mem _ e
theorem minL_mem {is : List Int} (h : 0 < is.length) : minL is ∈ is := by
  cases is with
  | nil => cases h
  | cons x r =>
    rcases foldl_min_mem r x with e | e
    · show r.foldl min x ∈ _
      rw [e]; exact List.mem_cons_self ..
    · exact List.mem_cons_of_mem _ e
theorem ints_len : ∀ {ds : List D} {is : List Int}, ints? ds = some is → is.length = ds.length
  | [], _, h => by simp only [ints?, Option.some.injEq] at h; subst h; rfl
  | d :: r, is, h => by
    unfold ints? at h
    split at h
    · rename_i i is' h1 h2
      cases h
      simp only [List.length_cons, ints_len h2]
    · cases h
section
variable {K : PySem.W.Frag} {W : Wd} {ta tb : TE} {fa fb : E W.S}
theorem f1_max : Flat1 K (rMaxA K) dMaxL := fun F x dx d hx e => by
  have key : ∀ ds, items? dx = some ds → ∀ is, 0 < ds.length → ints? ds = some is → d = .int (maxL is) → ∃ v, (∀ F, Dv K F v d) ∧ ∀ H Q, Sub F H → Q v H → rMaxA K [x] H Q := fun ds h1 is h2 h3 h4 => by
    obtain ⟨k, a, xs, rfl, hq, r, z⟩ := hx.itemsK h1
    have hxs := r.ints _ h3
    subst hxs h4
    refine ⟨_, fun _ => .int _, fun H Q sub q => ⟨k, a, is, rfl, sub.sqK hq, by rw [ints_len h3]; exact h2, fun m hm hge => ?_⟩⟩
    have : m = maxL is := Int.le_antisymm (maxL_ge hm) (hge _ (maxL_mem (by rw [ints_len h3]; exact h2)))
    rw [this]; exact q
  unfold dMaxL at e
  split at e
  · rename_i d0 ds
    obtain ⟨is, e1, e2⟩ := Option.map_eq_some_iff.mp e
    exact key (d0 :: ds) rfl is (by simp) e1 e2.symm
  · rename_i d0 ds
    obtain ⟨is, e1, e2⟩ := Option.map_eq_some_iff.mp e
    exact key (d0 :: ds) rfl is (by simp) e1 e2.symm
  · cases e
theorem f1_min : Flat1 K (rMinA K) dMinL := fun F x dx d hx e => by
  have key : ∀ ds, items? dx = some ds → ∀ is, 0 < ds.length → ints? ds = some is → d = .int (minL is) → ∃ v, (∀ F, Dv K F v d) ∧ ∀ H Q, Sub F H → Q v H → rMinA K [x] H Q := fun ds h1 is h2 h3 h4 => by
    obtain ⟨k, a, xs, rfl, hq, r, z⟩ := hx.itemsK h1
    have hxs := r.ints _ h3
    subst hxs h4
    refine ⟨_, fun _ => .int _, fun H Q sub q => ⟨k, a, is, rfl, sub.sqK hq, by rw [ints_len h3]; exact h2, fun m hm hge => ?_⟩⟩
    have : m = minL is := Int.le_antisymm (hge _ (minL_mem (by rw [ints_len h3]; exact h2))) (minL_le hm)
    rw [this]; exact q
  unfold dMinL at e
  split at e
  · rename_i d0 ds
    obtain ⟨is, e1, e2⟩ := Option.map_eq_some_iff.mp e
    exact key (d0 :: ds) rfl is (by simp) e1 e2.symm
  · rename_i d0 ds
    obtain ⟨is, e1, e2⟩ := Option.map_eq_some_iff.mp e
    exact key (d0 :: ds) rfl is (by simp) e1 e2.symm
  · cases e
end

/-! ### xs[::-1] -/
def tRevA (K : PySem.W.Frag) (te : TE) : TE := fun σ H Q => te σ H fun x H1 => ∃ a xs, x = .ref a ∧ ((SqL K H1 a xs ∧ ∀ p, H1 p = none → Q (.ref p) (upd H1 p (.lst xs.reverse))) ∨ (SqT K H1 a xs ∧ ∀ p, H1 p = none → Q (.ref p) (upd H1 p (.tup xs.reverse))))

section
variable {prog : Program} {w : World} {A : Around} {E : Value → Shared → Prop} {s : Shared}
theorem rev_places (n : Nat) : Builtin.Slice.slicePlaces ((n : Int) - 1) (-1) (-1) = n := by
  unfold Builtin.Slice.slicePlaces
  rw [if_neg (by decide)]
  by_cases h : (n : Int) - 1 > -1
  · rw [if_pos h]
    have e : ((n : Int) - 1 - -1 - 1) / (- -1) = (n : Int) - 1 := by
      rw [show (- -1 : Int) = 1 by decide, Int.ediv_one]
      omega
    rw [e]
    omega
  · rw [if_neg h]
    have e : n = 0 := by omega
    subst e
    rfl
theorem rev_pick (xs : Array Value) : ((List.range xs.size).filterMap fun (k : Nat) => xs[((xs.size : Int) - 1 + (k : Int) * (-1)).toNat]?).toArray = xs.toList.reverse.toArray := by
  congr 1
  have h1 := PySem.W.krv_all xs
  have h2 := PySem.W.krv_range xs.size
  rw [← h1, ← List.filterMap_reverse, ← h2, List.filterMap_map]
  have cong : ∀ (l : List Nat), (∀ k ∈ l, k < xs.size) → l.filterMap (fun (k : Nat) => xs[((xs.size : Int) - 1 + (k : Int) * (-1)).toNat]?) = l.filterMap ((fun x => xs[x]?) ∘ fun k => xs.size - 1 - k) := fun l => by
    induction l with
    | nil => exact fun _ => rfl
    | cons k r ih =>
      intro hk
      have h0 := hk k (List.mem_cons_self ..)
      have e : ((xs.size : Int) - 1 + (k : Int) * (-1)).toNat = xs.size - 1 - k := by omega
      rw [List.filterMap_cons, List.filterMap_cons, e, ih fun j hj => hk j (List.mem_cons_of_mem _ hj)]
      rfl
  exact cong _ fun k hk => List.mem_range.mp hk
theorem getItem_tuple_rev {t sl : Addr} {items : Array Value} {vs : Value} {Q : Value → Shared → Prop} (ht : IsTup s.heap t items) (hs : s.heap.IsSliceOf sl .none .none vs) (ps : IsPart vs (some (-1)))
    (h : Q (.ref s.heap.objs.size) { s with heap := s.heap.push { cls := .type "tuple", data := .seq items.toList.reverse.toArray } }) (hsz : items.size ≤ sizeLine) :
    wpAny (model prog w) A (getItem (.ref t) (.ref sl)) Q E s := by
  obtain ⟨os, hos, hcs, hds⟩ := id hs
  have hTs : s.TypeIs (.ref sl) "slice" := ⟨os, hos, hcs⟩
  unfold getItem
  try with_reducible refine wpAny_holding ?_
  first | refine wpAny_bind (wpAny_pure ?_) | skip
  refine wpAny_bind (wpAny_sequenceKey ht.typeIs (by decide) ?_)
  refine wpAny_bind (wpAny_callSpecial?_slot (name := Str.ofString "__getitem__") ht.typeIs PyProof.Rows.slot_tuple_getitem
    (wpAny_call_entry PyProof.Rows.slot_tuple_getitem ht.typeIs entry_tuple_getitem ?_ (args_tuple_getitem _ _)))
  show wpAny _ _ (Builtin.Tuple.tupleItemsOf (.ref t) >>= _) _ _ s
  refine wpAny_bind (tupleItemsOf_ ht ?_)
  refine wpAny_bind (wpAny_typeOf hTs ?_)
  rw [if_pos (by decide)]
  refine wpAny_bind ?_
  unfold Builtin.Slice.sliceApplied Builtin.Slice.sliceFields
  refine wpAny_bind (wpAny_bind (wpAny_field hos hds (x := .none) rfl (wpAny_bind (wpAny_field hos hds (x := .none) rfl (wpAny_bind (wpAny_field hos hds (x := vs) rfl (wpAny_pure ?_)))))))
  refine wpAny_bind (slicePart_ ps ?_)
  show wpAny _ _ (if ((-1 : Int) == 0) = true then _ else _) _ _ s
  rw [if_neg (by decide)]
  refine wpAny_bind (slicePart_none (wpAny_bind (slicePart_none (wpAny_bind (wpAny_pure ?_)))))
  show wpAny _ _ (pure ((items.size : Int) - 1, (-1 : Int), Builtin.Slice.slicePlaces ((items.size : Int) - 1) (-1) (-1))) _ _ s
  rw [rev_places]
  refine wpAny_pure ?_
  have hno : ¬ ((((items.size : Int) - 1) == 0 && (-1 : Int) == 1 && items.size == items.size) = true) := by simp
  show wpAny _ _ (if (((items.size : Int) - 1) == 0 && (-1 : Int) == 1 && items.size == items.size) = true then _ else _) _ _ s
  rw [if_neg hno]
  show wpAny _ _ (Builtin.Tuple.tupleExact ((List.range items.size).filterMap fun (k : Nat) => items[((items.size : Int) - 1 + (k : Int) * (-1)).toNat]?).toArray >>= _) _ _ s
  rw [rev_pick]
  have hz : sizeOk (.seq items.toList.reverse.toArray) := by
    show items.toList.reverse.toArray.size ≤ sizeLine
    rw [List.size_toArray, List.length_reverse, Array.length_toList]
    exact hsz
  refine wpAny_bind (wpAny_newObj_type (wpAny_pure ⟨_, rfl, wpAny_pure h⟩) hz)
end
theorem pe_revA {X : Cx} {e : Expr} {te : TE} {k : Nat} {p1 p2 p3 pos : Pos} (he : PE X e te) : PE X (.Subscript e (.Slice none none (some (.UnaryOp .USub (.Constant (.int 1) k p1) p2)) p3) pos) (tRevA X.K te) := by
  refine ⟨fun pins s σ H Q I h => ?_⟩
  refine Subscript_ (thn (he.run pins s σ H _ I h) fun v s1 ⟨x, H1, I1, r1, q1⟩ => ?_)
  obtain ⟨a, xs, ex, q⟩ := q1
  subst ex
  cases r1
  have hst : PO X (some (.UnaryOp .USub (.Constant (.int 1) k p1) p2)) (tPart (tUn (rU fun i => .int (-i)) (tC (.int 1)))) := po_some (pe_un un_neg pe_int)
  refine wpAny_Slice (thn (po_none.run pins s1 σ H1 (fun o H2 => o = none ∧ H2 = H1) I1 ⟨rfl, rfl⟩) fun vl s2 ⟨l, H2, I2, pl, el, e2⟩ => ?_)
  subst el e2
  refine thn (po_none.run pins s2 σ H2 (fun o H3 => o = none ∧ H3 = H2) I2 ⟨rfl, rfl⟩) fun vu s3 ⟨u, H3, I3, pu, eu, e3⟩ => ?_
  subst eu e3
  refine thn (hst.run pins s3 σ H3 (fun o H4 => o = some (-1) ∧ H4 = H3) I3 ⟨1, rfl, -1, rfl, rfl, rfl⟩) fun vs s4 ⟨o, H4, I4, ps, eo, e4⟩ => ?_
  subst eo e4
  have I5 : Inv X pins σ H4 { s4 with heap := s4.heap.push { cls := .type "slice", data := .fields #[vl, vu, vs] } } := I4.kept (t' := s4.toks) fun b ob q => Heap.get?_push_of_some _ q
  show wpAny (model X.prog X.w) X.A (subscriptTail e (.Slice none none (some (.UnaryOp .USub (.Constant (.int 1) k p1) p2)) p3) (.ref a) (.ref s4.heap.objs.size)) (EP X pins σ Q) X.xe { s4 with heap := s4.heap.push { cls := .type "slice", data := .fields #[vl, vu, vs] } }
  rcases q with ⟨hx, q⟩ | ⟨hx, q⟩
  · obtain ⟨its, r, ht, hz⟩ := I5.list hx
    have hlen := r.length
    refine tail_any (ops := [.ref a, .ref s4.heap.objs.size]) ht.isList.typeIs (PySem.slot_list_getitem.lookup) ?_ (by with_unfolding_all rfl)
    refine wpAny_getItem_list_slice ht.isList (Heap.IsSliceOf.new _ vl vu vs) pl pu ps (by decide) ?_ (by rw [List.size_toArray]; omega)
    rw [PySem.W.krv_pick]
    refine ⟨.ref _, _, I5.laid (t' := s4.toks) (o := .lst xs.reverse) (fun b ob q => Heap.get?_push_of_some _ q) (Nat.le_refl _) ?_, rfl, q _ (I5.hok.fresh (Nat.le_refl _))⟩
    exact ⟨by rw [List.length_reverse]; exact hz, _, 0, r.reverse, Heap.get?_push_size _ rfl⟩
  · obtain ⟨its, r, ht, hz⟩ := I5.tuple hx
    have hlen := r.length
    cases pl
    cases pu
    refine tail_any (ops := [.ref a, .ref s4.heap.objs.size]) ht.typeIs (PyProof.Rows.slot_tuple_getitem.lookup) ?_ (by with_unfolding_all rfl)
    refine getItem_tuple_rev ht (Heap.IsSliceOf.new _ .none .none vs) ps ?_ (by rw [List.size_toArray]; omega)
    refine ⟨.ref _, _, I5.laid (t' := s4.toks) (o := .tup xs.reverse) (fun b ob q => Heap.get?_push_of_some _ q) (Nat.le_refl _) ?_, rfl, q _ (I5.hok.fresh (Nat.le_refl _))⟩
    exact ⟨by rw [List.length_reverse]; exact hz, _, r.reverse, IsTup.new _ _⟩
section
variable {K : PySem.W.Frag} {W : Wd} {ta tb : TE} {fa fb : E W.S}
theorem se_rev (ha : SemE K W ta fa) : SemE K W (tRevA K ta) (e1 dRev fa) := fun B F0 σ H F ρ s R d ρ' s' e Q q => by
  unfold e1 at e
  split at e
  · rename_i x ρ1 s1 h1
    split at e
    · rename_i z h3
      cases e
      refine ha B F0 σ H F ρ s R x _ _ h1 _ fun v H1 F1 R1 sub1 d1 => ?_
      cases d1 <;> simp only [dRev, Option.some.injEq, reduceCtorEq] at h3
      · rename_i g1 z1 r1
        subst h3
        exact ⟨_, _, rfl, .inl ⟨.of (R1.fh _ _ g1), lay_lst R1 (by rw [List.length_reverse]; exact z1) r1.reverse fun v H' F' R' sub' d' => q v H' F' R' (sub1.trans sub') d'⟩⟩
      · rename_i g1 z1 r1
        subst h3
        exact ⟨_, _, rfl, .inr ⟨R1.fh.seqT g1, lay_tup R1 (by rw [List.length_reverse]; exact z1) r1.reverse fun v H' F' R' sub' d' => q v H' F' R' (sub1.trans sub') d'⟩⟩
    · cases e
  · cases e
end

/-! ### * -/
theorem tuple_mulS (l : Addr) (items : Array Value) (n : Nat) (dd : Option Addr) (sl : Array (Option Value)) (x : Int) (u : Tok) (c0 : (decide (x < -(2 ^ 63)) || decide (x ≥ 2 ^ 63)) = false) (c1 : (items.isEmpty || x == 1) = true) :
    Meets (Builtin.«tuple.__mul__» ⟨[.ref l, .int x u], []⟩) (fun _ R s => s.heap.get? l = some { cls := .type "tuple", dict := dd, data := .seq items n, slots := sl } ∧
      R (.ok (.ret (Value.ref l))) s) :=
  .of_wp fun prog w A R s h => by
    obtain ⟨hp, g, d, tk, os⟩ := s
    obtain ⟨hl, h⟩ := h
    have f1 := AutoSeq1.idx_int
    have hT : (⟨hp, g, d, tk, os⟩ : Shared).TypeIs (.ref l) "tuple" := ⟨_, hl, rfl⟩
    wp_walk using AutoSeq1.wpAny_loadPart' hl
    refine wpAny_ite_false (decide_eq_false (by rw [c0]; exact Bool.false_ne_true)) ?_
    wp_walk using AutoSeq1.wpAny_loadPart' hl
    exact ⟨_, rfl, h⟩
theorem tuple_mul0 (l : Addr) (items : Array Value) (n : Nat) (dd : Option Addr) (sl : Array (Option Value)) (x : Int) (u : Tok) (c0 : (decide (x < -(2 ^ 63)) || decide (x ≥ 2 ^ 63)) = false) (c1 : (items.isEmpty || x == 1) = false) (c2 : (decide (x ≤ 0) || items.isEmpty) = true) :
    Meets (Builtin.«tuple.__mul__» ⟨[.ref l, .int x u], []⟩) (fun _ R s => s.heap.get? l = some { cls := .type "tuple", dict := dd, data := .seq items n, slots := sl } ∧
      R (.ok (.ret (Value.ref s.heap.objs.size))) { s with heap := s.heap.push { cls := Value.type "tuple", data := Data.seq #[] }, toks := s.toks }) :=
  .of_wp fun prog w A R s h => by
    obtain ⟨hp, g, d, tk, os⟩ := s
    obtain ⟨hl, h⟩ := h
    have f1 := AutoSeq1.idx_int
    have hT : (⟨hp, g, d, tk, os⟩ : Shared).TypeIs (.ref l) "tuple" := ⟨_, hl, rfl⟩
    wp_walk using AutoSeq1.wpAny_loadPart' hl
    repeat (first
      | (refine wpAny_ite_false (decide_eq_false (by rw [c0]; exact Bool.false_ne_true)) ?_; wp_walk using AutoSeq1.wpAny_loadPart' hl)
      | (refine wpAny_ite_false (decide_eq_false (by rw [c1]; exact Bool.false_ne_true)) ?_; wp_walk using AutoSeq1.wpAny_loadPart' hl)
      | (refine wpAny_ite_true (decide_eq_true c2) ?_; wp_walk using AutoSeq1.wpAny_loadPart' hl))
    exact ⟨_, rfl, h⟩
/-- tuple * int -/
def rRepTA (K : PySem.W.Frag) : R2 := fun x y H Q => ∃ l k xs, x = .ref l ∧ y = .int k ∧ SqT K H l xs ∧ -1000 ≤ k ∧ k ≤ 1000 ∧ xs.length ≤ 1000 ∧
  ((xs = [] ∨ k = 1) → Q (.ref l) H) ∧ (¬ (xs = [] ∨ k = 1) → ∀ p, H p = none → Q (.ref p) (upd H p (.tup (List.replicate k.toNat xs).flatten)))
theorem op_repTA {X : Cx} : OpR X (binaryOp .Mult) (rRepTA X.K) := by
  intro pins s σ H x y v u Q I rx ry h
  obtain ⟨l, k, xs, rfl, rfl, hT, h0, h1, hz, q1, q2⟩ := h
  by_cases h2 : xs ≠ [] ∧ 2 ≤ k
  · exact op_repT pins s σ H _ _ v u Q I rx ry ⟨l, k, xs, rfl, rfl, hT, h2.1, h2.2, h1, hz, q2 (fun z => z.elim h2.1 fun z => by have := h2.2; omega)⟩
  · cases rx
    obtain ⟨t, rfl⟩ := ry
    obtain ⟨its, r, ⟨⟨cls, dd, data, sl⟩, ho, hc, n, hd⟩, hs⟩ := I.tuple hT
    simp only at hc hd
    subst hc hd
    have hle : its.length = xs.length := r.length.symm
    have c0 : (decide (k < -(2 ^ 63)) || decide (k ≥ 2 ^ 63)) = false := by
      rw [decide_eq_false (by omega), decide_eq_false (by omega)] <;> rfl
    by_cases h3 : xs = [] ∨ k = 1
    · have c1 : (its.toArray.isEmpty || k == 1) = true := by
        rcases h3 with z | z
        · have : its = [] := List.eq_nil_of_length_eq_zero (by rw [hle, z]; rfl)
          rw [this]; rfl
        · rw [z]; simp
      refine wpAny_binaryOp_repeat_ref (T := "tuple") (U := "int") (by decide) ⟨_, ho, rfl⟩ (fun s' => typeIs_int s' k t) noFill_tuple_mul F.fills_int_mul F.slot_int_rmul repeat_tuple F.slot_int_index.lookup
        (call_meets F.slot_int_rmul (typeIs_int s k t) F.entry_int_rmul (F.args_int_rmul_2 _ _) (int_rmul_tuple k t l its.toArray n dd sl)
          ⟨ho, rfl, ⟨_, ho, rfl⟩, call_meets F.slot_tuple_mul ⟨_, ho, rfl⟩ F.entry_tuple_mul (F.args_tuple_mul_2 _ _) (tuple_mulS l its.toArray n dd sl k t c0 c1) ⟨ho, ?_⟩⟩)
      exact ⟨.ref l, H, I, rfl, q1 h3⟩
    · have hk : k ≤ 0 := by
        rcases Int.lt_or_le 1 k with z | z
        · exact absurd ⟨fun e => h3 (.inl e), by omega⟩ h2
        · have : k ≠ 1 := fun e => h3 (.inr e)
          omega
      have hi : its.toArray.isEmpty = false := by
        cases its with
        | nil => exact absurd (.inl (List.eq_nil_of_length_eq_zero (by rw [← hle]; rfl))) h3
        | cons a b => rfl
      have c1 : (its.toArray.isEmpty || k == 1) = false := by
        rw [hi, Bool.false_or]
        exact beq_eq_false_iff_ne.mpr (by omega)
      have c2 : (decide (k ≤ 0) || its.toArray.isEmpty) = true := by
        rw [decide_eq_true hk, Bool.true_or]
      refine wpAny_binaryOp_repeat_ref (T := "tuple") (U := "int") (by decide) ⟨_, ho, rfl⟩ (fun s' => typeIs_int s' k t) noFill_tuple_mul F.fills_int_mul F.slot_int_rmul repeat_tuple F.slot_int_index.lookup
        (call_meets F.slot_int_rmul (typeIs_int s k t) F.entry_int_rmul (F.args_int_rmul_2 _ _) (int_rmul_tuple k t l its.toArray n dd sl)
          ⟨ho, rfl, ⟨_, ho, rfl⟩, call_meets F.slot_tuple_mul ⟨_, ho, rfl⟩ F.entry_tuple_mul (F.args_tuple_mul_2 _ _) (tuple_mul0 l its.toArray n dd sl k t c0 c1 c2) ⟨ho, ?_⟩⟩)
      have e0 : (List.replicate k.toNat xs).flatten = [] := by
        have : k.toNat = 0 := by omega
        rw [this]; rfl
      refine ⟨.ref s.heap.objs.size, _, I.laid (t' := s.toks) (o := .tup (List.replicate k.toNat xs).flatten) (fun b ob q => Heap.get?_push_of_some _ q) (Nat.le_refl _) ?_, rfl, q2 h3 _ (I.hok.fresh (Nat.le_refl _))⟩
      rw [e0]
      exact ⟨Nat.zero_le _, [], .nil, IsTup.new _ _⟩
def rMulA (K : PySem.W.Frag) : R2 := fun x y H Q => (rI CMul (fun i j => .int (i * j)) x y H Q ∨ rRepTA K x y H Q) ∨ rRep x y H Q
theorem op_mulA {X : Cx} : OpR X (binaryOp .Mult) (rMulA X.K) := (op_mul.or op_repTA).or op_rep
section
variable {K : PySem.W.Frag} {W : Wd} {ta tb : TE} {fa fb : E W.S}
theorem r2_mul : SemR2 K W (rMulA K) dMul := fun B F0 σ H F ρ s R x y dx dy d hx hy e Q q => by
  cases hx <;> cases hy <;> simp only [dMul, reduceCtorEq] at e
  · rename_i i j
    split at e
    · rename_i hc
      cases e
      refine .inl (.inl ⟨_, _, rfl, rfl, hc, q _ H F R (Sub.refl F) (.int _)⟩)
    · cases e
  · rename_i h1 z1 r1 k
    split at e
    · rename_i hc
      cases e
      obtain ⟨c1, c2, c3⟩ := hc
      have hz : _ ≤ sizeLine := lim_size (by rw [← r1.length] at c3; exact c3)
      refine .inr ⟨_, k, _, rfl, rfl, R.fh _ _ h1, by omega, by omega, hz, lay_lst R (by rw [PyProof.Rows.lm_len_rep_flat, Nat.mul_comm]; exact hz) (r1.repl _) q⟩
    · cases e
  · rename_i h1 z1 r1 k
    split at e
    · rename_i hc
      cases e
      obtain ⟨c1, c2, c3⟩ := hc
      have c4 := c3
      rw [← r1.length] at c4
      refine .inl (.inr ⟨_, k, _, rfl, rfl, R.fh.seqT h1, c1, c2, c4, fun e0 => ?_, fun _ => lay_tup R (by
        rw [PyProof.Rows.lm_len_rep_flat, sizeLine_eq]
        exact Nat.le_trans (Nat.mul_le_mul (show k.toNat ≤ 1000 by omega) c4) (by decide)) (r1.repl _) q⟩)
      rcases e0 with e0 | e0
      · subst e0
        cases r1
        simp at q
        exact q _ H F R (Sub.refl F) (.tup h1 z1 .nil)
      · subst e0
        have e1 : ∀ ds : List D, (List.replicate (1 : Int).toNat ds).flatten = ds := fun ds => by simp
        rw [e1] at q
        exact q _ H F R (Sub.refl F) (.tup h1 z1 r1)
    · cases e
/-- a new list: xs * k -/
def dRep : D → D → Option D
  | .lst a, .int k => dMul (.lst a) (.int k)
  | _, _ => none
theorem sn_rep (ha : SemE K W ta fa) (hb : SemE K W tb fb) : SemN K W (tOp rRep ta tb) (e2 dRep fa fb) := fun B F0 σ H F ρ s R d ρ' s' e Q q => by
  unfold e2 at e
  split at e
  · rename_i x ρ1 s1 h1
    split at e
    · rename_i y ρ2 s2 h2
      split at e
      · rename_i z h3
        cases e
        refine ha B F0 σ H F ρ s R _ _ _ h1 _ fun v H1 F1 R1 sub1 d1 => ?_
        refine hb B F0 σ H1 F1 _ _ R1 _ _ _ h2 _ fun w H2 F2 R2 sub2 d2 => ?_
        have d1' := d1.mono sub2
        cases d1' <;> cases d2 <;> simp only [dRep, dMul, reduceCtorEq] at h3
        rename_i g1 z1 r1 k
        split at h3
        · rename_i hc
          cases h3
          obtain ⟨c1, c2, c3⟩ := hc
          have hz : _ ≤ sizeLine := lim_size (by rw [← r1.length] at c3; exact c3)
          refine ⟨_, k, _, rfl, rfl, R2.fh _ _ g1, by omega, by omega, hz, lay_new R2 (by rw [PyProof.Rows.lm_len_rep_flat, Nat.mul_comm]; exact hz) (r1.repl _) fun p vs ds H' F' hd R' hB hF sub' => q p vs ds H' F' hd R' hB hF ((sub1.trans sub2).trans sub')⟩
        · cases h3
      · cases e
    · cases e
  · cases e
end
end Fw
namespace Fw
open PySem PySem.Spec PyProof.Rows L2 FwZ HT
/-! the same with the written part named (within comprehensions) -/
section
variable {X : Cx} {K : PySem.W.Frag} {o e : Expr} {es : List Expr} {T id : String} {name : Str} {apos cpos : Pos} {to : TE} {t : TA} {r : V → List V → Hp → VK → Prop}
theorem pe_bmK (hK : X.K = K) (pa : PlainAttrs T) (slot : Slot T name id) (hty : typeOf (.builtin id) = pure (.type "method_descriptor")) (hm : MtR X id r) (ho : PE X o to) (ha : PA X (e :: es) t)
    (hbase : attributeBase o name X.env (eval o X.env) = eval o X.env := by rfl)
    (hfew : ((backTo cpos (starEach (e :: es) X.env)).all (fun x => !x.1) && (backToKw cpos (keywordEach [] X.env)).all (fun x => x.1.isSome)
      && decide ((e :: es).length + ([] : List Keyword).length + (if ([] : List Keyword).isEmpty then 0 else 1) < 30)) = true := by rfl)
    (hline : (apos.endLine == cpos.line) = true := by rfl) (hs : starEach (e :: es) X.env = (false, eval e X.env) :: starEach es X.env := by rfl) (hplain : (backTo cpos (starEach es X.env)).any (·.1) = false := by rfl) :
    PE X (.Call (.Attribute o name apos) (e :: es) [] cpos) (tBM K T r to t) := by
  subst hK
  exact pe_bm pa slot hty hm ho ha hbase hfew hline hs hplain
theorem pe_bm0K' (hK : X.K = K) (pa : PlainAttrs T) (slot : Slot T name id) (hty : typeOf (.builtin id) = pure (.type "method_descriptor")) (hm : MtR X id r) (ho : PE X o to)
    (hbase : attributeBase o name X.env (eval o X.env) = eval o X.env := by rfl) (hline : (apos.endLine == cpos.line) = true := by rfl) : PE X (.Call (.Attribute o name apos) [] [] cpos) (tBM0 K T r to) := by
  subst hK
  exact pe_bm0 pa slot hty hm ho hbase hline
theorem pe_revK (hK : X.K = K) {k : Nat} {p1 p2 p3 pos : Pos} {te : TE} (he : PE X e te) : PE X (.Subscript e (.Slice none none (some (.UnaryOp .USub (.Constant (.int 1) k p1) p2)) p3) pos) (tRevA K te) := by
  subst hK
  exact pe_revA he
theorem pi_anyK (hK : X.K = K) {tg l : Expr} {tl : TE} (hl : PE X l tl) : PI X tg l (iAny K tl) := by
  subst hK
  exact pi_any hl
theorem pi_enumK (hK : X.K = K) {ta : TA} {p pos tpos : Pos} {elts : List Expr} {kk : Nat} (hg : Gl X "enumerate") (hm : X.mg "enumerate" = none) (ha : PA X [e] ta) (hs : starEach [e] X.env = [(false, eval e X.env)] := by rfl) :
    PI X (.Tuple elts kk tpos) (.Call (.Name "enumerate" p) [e] [] pos) (iEnumA K ta) := by
  subst hK
  exact pi_enumA hg hm ha hs
theorem pi_zipK {e2 : Expr} (hK : X.K = K) {ta : TA} {p pos tpos : Pos} {elts : List Expr} {kk : Nat} (hg : Gl X "zip") (hm : X.mg "zip" = none) (ha : PA X [e, e2] ta)
    (hs : starEach [e, e2] X.env = (false, eval e X.env) :: starEach [e2] X.env := by rfl) (hpl : (backTo pos (starEach [e2] X.env)).any (·.1) = false := by rfl) :
    PI X (.Tuple elts kk tpos) (.Call (.Name "zip" p) [e, e2] [] pos) (iZipK K false ta) := by
  subst hK
  exact Fw.pi_zipA hg hm ha hs hpl
theorem pi_zipSK {e2 : Expr} (hK : X.K = K) {ta : TA} {p pos tpos kcp kp : Pos} {j} {elts : List Expr} {kk : Nat} (hg : Gl X "zip") (hm : X.mg "zip" = none) (ha : PA X [e, e2] ta)
    (he : backTo pos (starEach [e, e2] X.env) = (false, eval e X.env) :: backTo pos (starEach [e2] X.env) := by rfl) (hpl : (backTo pos (starEach [e, e2] X.env)).any (·.1) = false := by rfl) :
    PI X (.Tuple elts kk tpos) (.Call (.Name "zip" p) [e, e2] [⟨some "strict", .Constant (.bool true) j kcp, kp⟩] pos) (iZipK K true ta) := by
  subst hK
  exact pi_zipS hg hm ha he hpl
end
end Fw
/-! ## FwR -/
set_option Elab.async false
set_option linter.all false
set_option maxRecDepth 100000
set_option maxHeartbeats 2000000
/-! repr of data. -/
namespace Fw
open PySem PySem.Spec PyProof.Rows L2
section
variable {X : Cx} {pins : List (Addr × Obj)} {σ : L2.St} {H : Hp} {s : Shared}
theorem dct_dv {kvs : List (Key × D)} {v : V} {u : Value} (I : Inv X pins σ H s) (h : Dv X.K H v (.dct kvs)) (r : RelV v u) (hs : (D.dct kvs).showOk = true) :
    ∃ as, Reads s.heap u (D.dct kvs).py as ∧ ∃ o es n a, u = .ref a ∧ s.heap.get? a = some o ∧ o.cls = .type "dict" ∧ o.data = .dict es n ∧ (a == sysModules) = false ∧ es.toList = [] ∧ kvs = [] := by
  cases h with
  | dct h1 r1 hl =>
    rename_i a ks xs ds
    cases r
    have e0 : ks.zip ds = [] := by simpa [D.showOk] using hs
    have e1 : ks.zip xs = [] := by
      have hl2 := r1.length
      have := congrArg List.length e0
      rw [List.length_zip] at this
      apply List.eq_nil_of_length_eq_zero
      rw [List.length_zip, hl2]
      simpa using this
    rw [e1] at h1
    obtain ⟨z, hsys, vs, rel, dd⟩ := dk_of I.hok h1
    cases rel
    obtain ⟨o, es, ep, ho, hx, hd, he, hp, hn⟩ := dd
    have hem : es.toList = [] := by
      generalize es.toList = l at hp
      cases hp
      rfl
    rw [e0]
    have hr : Reads s.heap (.ref a) (D.dct []).py (a :: [] ++ []) := Reads.dict (kvs := []) ho hx.1 hd (by rw [hem]; exact .nil) (by rw [hem]; exact .nil)
    exact ⟨_, hr, o, es, ep, a, rfl, ho, hx.1, hd, hsys, hem, rfl⟩
mutual
theorem repr_dv (I : Inv X pins σ H s) : ∀ (d : D) (v : V) (u : Value), Dv X.K H v d → RelV v u → d.showOk = true → d.py.shown.length ≤ sizeLine →
    ∃ as bs, Reads s.heap u d.py as ∧ ReadAtMost s.heap d.py.depth bs ∧ ReprK X.prog X.w bs s.heap d.py.depth u d.py.shown
  | .non, _, _, h, r, _, _ => by
    cases h
    cases r
    exact ⟨_, [], Reads.none, (fun _ h => nomatch h), by simp only [D.py, PyData.shown]; exact .of_is ReprIs.none _ _ _⟩
  | .bl b, _, _, h, r, _, _ => by
    cases h
    cases r
    exact ⟨_, [], Reads.bool b, (fun _ h => nomatch h), by simp only [D.py, PyData.shown]; exact .of_is (ReprIs.bool b) _ _ _⟩
  | .int i, _, _, h, r, hs, _ => by
    cases h
    obtain ⟨t, rfl⟩ := r
    exact ⟨_, [], Reads.int i t, (fun _ h => nomatch h), by simp only [D.py, PyData.shown]; exact .of_is (ReprIs.int t (by simpa [D.showOk] using hs)) _ _ _⟩
  | .str x, _, _, h, r, _, hz => by
    cases h
    obtain ⟨t, rfl⟩ := r
    exact ⟨_, [], Reads.str x t, (fun _ h => nomatch h), by simp only [D.py, PyData.shown]; exact .of_is (ReprIs.str x t (by simpa only [D.py, PyData.shown] using hz)) _ _ _⟩
  | .lst ds, _, _, h, r, hs, hz => by
    cases h with
    | lst h1 z1 r1 =>
      cases r
      obtain ⟨its, rv, ⟨o, n, ho, hc, _, hd⟩, _⟩ := I.list (.of h1)
      simp only [D.py] at hz ⊢
      have hz' : (listText (PyData.shownAll (D.pys ds))).length ≤ sizeLine := by simpa only [PyData.shown] using hz
      obtain ⟨as, bs, hr, hb, hk⟩ := repr_dvs I ds _ its r1 rv (by simpa [D.showOk] using hs) (fun t ht => Nat.le_trans (listText_mem_le ht) hz')
      have rr : Reads s.heap (.ref _) (.list (D.pys ds)) _ := .list ho hc hd (by simpa using hr)
      have hna : _ ∉ bs := not_mem_of_deeper rr (by simp only [PyData.depth]; omega) hb
      refine ⟨_, _ :: bs, rr, ReadAtMost.cons rr (by simp only [PyData.depth]; omega) hb, ?_⟩
      simp only [PyData.depth, PyData.shown]
      cases its with
      | nil =>
        cases rv
        cases r1
        simp only [D.pys, PyData.shownAll, listText_nil]
        exact ReprK.listEmpty ho hc hd
      | cons x l => exact ReprK.list ho hc hd hna (by simpa using hk.length_eq) (fun i y e => hk.item i y (by simpa using e))
  | .tup ds, _, _, h, r, hs, hz => by
    cases h with
    | tup h1 z1 r1 =>
      cases r
      obtain ⟨its, rv, ⟨o, ho, hc, n, hd⟩, _⟩ := I.tuple h1
      simp only [D.py] at hz ⊢
      have hz' : (tupleText (PyData.shownAll (D.pys ds))).length ≤ sizeLine := by simpa only [PyData.shown] using hz
      obtain ⟨as, bs, hr, hb, hk⟩ := repr_dvs I ds _ its r1 rv (by simpa [D.showOk] using hs) (fun t ht => Nat.le_trans (tupleText_mem_le ht) hz')
      have rr : Reads s.heap (.ref _) (.tuple (D.pys ds)) _ := .tuple ho hc hd (by simpa using hr)
      have hna : _ ∉ bs := not_mem_of_deeper rr (by simp only [PyData.depth]; omega) hb
      refine ⟨_, _ :: bs, rr, ReadAtMost.cons rr (by simp only [PyData.depth]; omega) hb, ?_⟩
      simp only [PyData.depth, PyData.shown]
      exact ReprK.tuple ho hc hd hna hk
  | .dct kvs, v, u, h, r, hs, hz => by
    obtain ⟨as, hr, o, es, n, a, e, ho, hc, hd, hsys, hem, e0⟩ := dct_dv I h r hs
    subst e e0
    have hem' : es.toList = [] := by rw [hem]
    have hk : ReprK X.prog X.w [a] s.heap (0 + 1) (.ref a) (dictText []) := ReprK.dict (as := []) (d := 0) ho hc hd hsys (by simp) (by rw [hem']; exact .nil)
    refine ⟨as, [a], hr, ReadAtMost.cons hr (Nat.le_refl _) (fun _ h => nomatch h), ?_⟩
    simp only [D.py, D.pyKv, PyData.depth, PyData.depthKv, PyData.shown, PyData.shownKv]
    exact hk
  | .obj _, _, _, _, _, hs, _ => by simp [D.showOk] at hs
theorem repr_dvs (I : Inv X pins σ H s) : ∀ (ds : List D) (vs : List V) (us : List Value), Dvs X.K H vs ds → Vals vs us → D.showOks ds = true → (∀ t ∈ PyData.shownAll (D.pys ds), t.length ≤ sizeLine) →
    ∃ as bs, ReadsAll s.heap us (D.pys ds) as ∧ ReadAtMost s.heap (PyData.depthAll (D.pys ds)) bs ∧ ReprAllK X.prog X.w bs s.heap (PyData.depthAll (D.pys ds)) us (PyData.shownAll (D.pys ds))
  | [], _, _, h, r, _, _ => by
    cases h
    cases r
    exact ⟨_, [], ReadsAll.nil, (fun _ h => nomatch h), by simp only [D.pys, PyData.shownAll]; exact .nil⟩
  | d :: ds, _, _, h, r, hs, hz => by
    cases h with
    | cons h1 h2 =>
      cases r with
      | cons q1 q2 =>
        have hs' : d.showOk = true ∧ D.showOks ds = true := by simpa [D.showOks] using hs
        simp only [D.pys, PyData.shownAll, PyData.depthAll] at hz ⊢
        obtain ⟨as1, b1, r1, hb1, k1⟩ := repr_dv I d _ _ h1 q1 hs'.1 (hz _ (List.mem_cons_self ..))
        obtain ⟨as2, b2, r2, hb2, k2⟩ := repr_dvs I ds _ _ h2 q2 hs'.2 (fun t ht => hz t (List.mem_cons_of_mem _ ht))
        refine ⟨_, b1 ++ b2, .cons r1 r2, ?_, .cons ((k1.more fun b hb => List.mem_append_left _ hb).level_le (Nat.le_max_left _ _)) (k2.more_le (fun b hb => List.mem_append_right _ hb) (Nat.le_max_right _ _))⟩
        intro b hm
        rcases List.mem_append.mp hm with hm | hm
        · obtain ⟨d', as', r', hd'⟩ := hb1 b hm
          exact ⟨d', as', r', Nat.le_trans hd' (Nat.le_max_left _ _)⟩
        · obtain ⟨d', as', r', hd'⟩ := hb2 b hm
          exact ⟨d', as', r', Nat.le_trans hd' (Nat.le_max_right _ _)⟩
end
/-- repr(x) -/
def rReprA (K : PySem.W.Frag) : List V → Hp → VK → Prop := fun xs H Q => ∃ v d, xs = [v] ∧ Dv K H v d ∧ d.showOk = true ∧ d.py.shown.length ≤ sizeLine ∧ d.py.depth ≤ 60 ∧ Q (.str d.py.shown) H
theorem call_reprA {k : Nat} (hr : RoomG k X.A) : CallR X (.builtin "repr") (rReprA X.K) := by
  intro pins s σ H xs us Q I r h
  obtain ⟨v, d, rfl, dv, hs, hz, hdp, q⟩ := h
  obtain ⟨u, rfl, ru⟩ := vals1 r
  have hu : X.A.units + 64 < cLine := hr.units
  have fin : ∀ (h' : Heap) (t tk : Tok), (∀ b o, s.heap.get? b = some o → h'.get? b = some o) → EP X pins σ Q (.str d.py.shown t) { s with heap := h', toks := tk } := fun h' t tk hk => ⟨.str _, H, I.kept (t' := tk) hk, ⟨_, rfl⟩, q⟩
  have fin0 : ∀ (t tk : Tok), EP X pins σ Q (.str d.py.shown t) { s with toks := tk } := fun t tk => fin s.heap t tk fun _ _ e => e
  cases d with
  | non =>
    cases dv
    cases ru
    exact PySem.P.repr_of_none (fin0 _ _)
  | bl b =>
    cases dv
    cases ru
    exact PySem.P.repr_of_bool (by simpa only [D.py, PyData.shown] using fin0 s.toks (s.toks + 1))
  | int i =>
    cases dv
    obtain ⟨t, rfl⟩ := ru
    exact PySem.P.repr_of_int (by simpa [D.showOk] using hs) (by simpa only [D.py, PyData.shown] using fin0 s.toks (s.toks + 1))
  | str x =>
    cases dv
    obtain ⟨t, rfl⟩ := ru
    exact PySem.P.repr_of_str (by simpa only [D.py, PyData.shown] using fin0 s.toks (s.toks + 1)) (by simpa only [D.py, PyData.shown] using hz)
  | lst ds =>
    cases dv with
    | lst h1 z1 r1 =>
      cases ru
      obtain ⟨its, rv, ⟨o, n, ho, hc, _, hd⟩, _⟩ := I.list (.of h1)
      simp only [D.py] at hz hdp fin
      have hz' : (listText (PyData.shownAll (D.pys ds))).length ≤ sizeLine := by simpa only [PyData.shown] using hz
      obtain ⟨as, bs, hr', hb, hk⟩ := repr_dvs I ds _ its r1 rv (by simpa [D.showOk] using hs) (fun t ht => Nat.le_trans (listText_mem_le ht) hz')
      have rr : Reads s.heap (.ref _) (.list (D.pys ds)) _ := .list ho hc hd (by simpa using hr')
      have hna : _ ∉ bs := not_mem_of_deeper rr (by simp only [PyData.depth]; omega) hb
      simp only [PyData.depth] at hdp
      simp only [PyData.shown] at fin
      refine call_repr_slot (by omega) ⟨o, ho, hc⟩ F.slot_list_repr.toG ?_
      cases its with
      | nil =>
        cases rv
        cases r1
        simp only [D.pys, PyData.shownAll, listText_nil] at fin
        exact call_list_repr_empty ⟨o, ho, hc⟩ ho hd ⟨_, _, rfl, fin s.heap _ _ fun _ _ e => e⟩
      | cons x l =>
        exact call_list_reprK ho hc hd hna (by simpa using hk.length_eq) (fun i y e => hk.item i y (by simpa using e)) (show X.A.in1.guards = some [] from hr.gd) (fun b _ => Clear.nil b) (by show X.A.units + 1 + _ < cLine; omega) (fun _ _ e => e) (fun h' u tk hk => ⟨_, _, rfl, fin h' u tk hk⟩) hz'
  | tup ds =>
    cases dv with
    | tup h1 z1 r1 =>
      cases ru
      obtain ⟨its, rv, ⟨o, ho, hc, n, hd⟩, _⟩ := I.tuple h1
      simp only [D.py] at hz hdp fin
      have hz' : (tupleText (PyData.shownAll (D.pys ds))).length ≤ sizeLine := by simpa only [PyData.shown] using hz
      obtain ⟨as, bs, hr', hb, hk⟩ := repr_dvs I ds _ its r1 rv (by simpa [D.showOk] using hs) (fun t ht => Nat.le_trans (tupleText_mem_le ht) hz')
      have rr : Reads s.heap (.ref _) (.tuple (D.pys ds)) _ := .tuple ho hc hd (by simpa using hr')
      have hna : _ ∉ bs := not_mem_of_deeper rr (by simp only [PyData.depth]; omega) hb
      simp only [PyData.depth] at hdp
      simp only [PyData.shown] at fin
      refine call_repr_slot (by omega) ⟨o, ho, hc⟩ F.slot_tuple_repr ?_
      exact call_tuple_reprK ho hc hd hna hk (show X.A.in1.guards = some [] from hr.gd) (fun b _ => Clear.nil b) (by show X.A.units + 1 + _ < cLine; omega) (fun _ _ e => e) (fun h' u tk hk => ⟨_, _, rfl, fin h' u tk hk⟩) hz'
  | dct kvs =>
    obtain ⟨as, hr', o, es, n, a, e, ho, hc, hd, hsys, hem, e0⟩ := dct_dv I dv ru hs
    subst e e0
    simp only [D.py, D.pyKv, PyData.shown, PyData.shownKv] at fin hz
    refine call_repr_slot (by omega) ⟨o, ho, hc⟩ F.slot_dict_repr ?_
    exact call_dict_reprK (as := []) (d := 0) (ps := []) ho hc hd hsys (by simp) (by rw [hem]; exact .nil) (show X.A.in1.guards = some [] from hr.gd) (fun b _ => Clear.nil b) (by show X.A.units + 1 + _ < cLine; omega) (fun _ _ e => e) (fun h' u tk hk => ⟨_, _, rfl, fin h' u tk hk⟩) hz
  | obj a => simp [D.showOk] at hs
end
theorem f1_repr {K : PySem.W.Frag} : Flat1 K (rReprA K) dRepr := fun F x dx d hx e => by
  unfold dRepr at e
  split at e
  · rename_i h
    cases e
    unfold D.reprOk at h
    simp only [Bool.and_eq_true, decide_eq_true_eq] at h
    exact ⟨_, fun _ => .str _, fun H Q sub q => ⟨_, _, rfl, hx.mono sub, h.1.1, lim_size h.1.2, h.2, q⟩⟩
  · cases e
end Fw
/-! ## FwW -/
set_option Elab.async false
set_option linter.all false
set_option maxRecDepth 100000
set_option maxHeartbeats 2000000
namespace Fw
open PySem PySem.Spec PyProof.Rows L2
section
variable {K : PySem.W.Frag} {W : Wd}
theorem Hold.sub {F : Hp} : ∀ {xs : List Sl} {vs : List V} {B B' : Hp}, Hold K F B xs vs B' → Sub B B'
  | [], [], B, B', h => by
    rw [show B' = B from h]
    exact Sub.refl B
  | .sh d :: xs, v :: vs, B, B', h => Hold.sub h.2
  | .ow d :: xs, v :: vs, B, B', ⟨p, o, e2, e3, e4, e6, e7⟩ => (Sub.upd e3).trans (Hold.sub e7)
  | [], _ :: _, _, _, h => h.elim
  | .sh _ :: _, [], _, _, h => h.elim
  | .ow _ :: _, [], _, _, h => h.elim
theorem Hold.updF {F : Hp} {p : Addr} {o : HO} (hF : F p = none) : ∀ {xs : List Sl} {vs : List V} {B B' : Hp}, B' p = none → Hold K F B xs vs B' → Hold K (upd F p o) B xs vs B'
  | [], [], B, B', _, h => h
  | .sh d :: xs, v :: vs, B, B', hp, h => ⟨h.1.mono (.upd hF), Hold.updF hF hp h.2⟩
  | .ow d :: xs, v :: vs, B, B', hp, ⟨q, o, e2, e3, e4, e6, e7⟩ => by
    have hq : q ≠ p := fun z => by
      have := Hold.sub e7 q _ upd_same
      rw [z, hp] at this
      cases this
    exact ⟨q, o, e2, e3, by rw [upd_ne hq]; exact e4, e6.mono (.upd hF), Hold.updF hF hp e7⟩
  | [], _ :: _, _, _, _, h => h.elim
  | .sh _ :: _, [], _, _, _, h => h.elim
  | .ow _ :: _, [], _, _, _, h => h.elim
/-- names alone -/
def gNames : List Nat → TGs
  | [] => L2.gNil
  | i :: is => L2.gCons (L2.gName i) (gNames is)
def setsV : List Nat → List V → L2.St → L2.St
  | i :: is, v :: vs, σ => setsV is vs (σ.set i (some v))
  | _, _, σ => σ
theorem gNames_run : ∀ {is : List Nat} {vs : List V} {σ : L2.St} {H : Hp} {Q : L2.St → Hp → Prop}, vs.length = is.length → Q (setsV is vs σ) H → gNames is vs σ H Q
  | [], [], _, _, _, _, q => ⟨rfl, q⟩
  | i :: is, v :: vs, _, _, _, hl, q => ⟨v, vs, rfl, gNames_run (by simpa using hl) q⟩
theorem setsV_len : ∀ (is : List Nat) (vs : List V) (σ : L2.St), (setsV is vs σ).length = σ.length
  | i :: is, v :: vs, σ => by simp only [setsV]; rw [setsV_len is vs, List.length_set]
  | [], _, _ => rfl
  | _ :: _, [], _ => rfl
theorem setsV_out : ∀ (is : List Nat) (vs : List V) (σ : L2.St) (j : Nat), j ∉ is → (setsV is vs σ)[j]? = σ[j]?
  | i :: is, v :: vs, σ, j, h => by
    simp only [setsV]
    rw [setsV_out is vs _ j fun z => h (List.mem_cons_of_mem _ z), set_get_ne fun z => h (by rw [z]; exact List.mem_cons_self ..)]
  | [], _, _, _, _ => rfl
  | _ :: _, [], _, _, _ => rfl
theorem setsV_in : ∀ (is : List Nat) (vs : List V) (σ : L2.St) (k i : Nat) (v : V), is.Nodup → is[k]? = some i → vs[k]? = some v → i < σ.length → (setsV is vs σ)[i]? = some (some v)
  | i :: is, v :: vs, σ, 0, i', v', nd, e1, e2, hl => by
    simp only [List.getElem?_cons_zero, Option.some.injEq] at e1 e2
    subst e1 e2
    simp only [setsV]
    rw [setsV_out is vs _ i (List.nodup_cons.mp nd).1, set_get_eq hl]
  | i :: is, v :: vs, σ, k + 1, i', v', nd, e1, e2, hl => by
    simp only [List.getElem?_cons_succ] at e1 e2
    simp only [setsV]
    exact setsV_in is vs _ k i' v' (List.nodup_cons.mp nd).2 e1 e2 (by rw [List.length_set]; exact hl)
  | [], _, _, k, i, v, _, e1, _, _ => by simp at e1
  | _ :: _, [], _, k, i, v, _, _, e2, _ => by simp at e2
/-- a, b = x, y by way of a tuple -/
theorem ss_unp {is : List Nat} {t : TA} {f : Qs W.S} {n : Nat} (h : SemQ K W t f) (hn : n = is.length) (hnd : is.Nodup) (hz : is.length ≤ 100) : SemS K W (tAsg (tTup t) (L2.gTup K n (gNames is))) (sPar is f) := fun B F0 σ H F ρ s R o e Dd q => by
  unfold sPar at e
  split at e
  · rename_i xs ρ1 s1 h1
    split at e
    · rename_i hl
      cases e
      refine h B F0 σ H F ρ s R _ _ _ h1 _ fun vs H1 F1 B1 R1 sub1 hh => ?_
      have hv := hh.len
      rw [hl] at hv
      refine ⟨by rw [hv]; exact Nat.le_trans hz (by decide), fun p hp => ?_⟩
      have hFp : F1 p = none := R1.fh.none hp
      have hBp : B1 p = none := R1.bh.none hp
      have R2 := R1.new (o := .tup vs) hp
      obtain ⟨σ', R', l1, l2, l3⟩ := R2.setHold (is := is) (hh.updF hFp hBp) hnd hl.symm
      refine ⟨p, vs, rfl, .inl (.inl upd_same), by rw [hv, hn], gNames_run hv ?_⟩
      have : setsV is vs σ = σ' := by
        apply List.ext_getElem?
        intro k
        by_cases hk : k < σ.length
        · by_cases e1 : k ∈ is
          · obtain ⟨m, hm⟩ := List.mem_iff_getElem?.mp e1
            have hmv : m < vs.length := by rw [hv]; exact (List.getElem?_eq_some_iff.mp hm).1
            have hw : vs[m]? = some vs[m] := List.getElem?_eq_getElem hmv
            rw [setsV_in is vs σ m k _ hnd hm hw hk, l3 m k _ hm hw hk]
          · rw [setsV_out is vs σ k e1, l2 k e1]
        · rw [List.getElem?_eq_none (by rw [setsV_len]; omega), List.getElem?_eq_none (by omega)]
      rw [this]
      exact q σ' _ _ R' (sub1.trans (.upd hFp))
    · cases e
  · cases e
end
/-! the written part named -/
section
variable {X : Cx} {K : PySem.W.Frag}
theorem opk (r : PySem.W.Frag → R2) {f : Value → Value → Sem Value} (hK : X.K = K) (h : OpR X f (r X.K)) : OpR X f (r K) := hK ▸ h
theorem callk (r : PySem.W.Frag → List V → Hp → VK → Prop) {f : Value} (hK : X.K = K) (h : CallR X f (r X.K)) : CallR X f (r K) := hK ▸ h
theorem ixk (r : PySem.W.Frag → R2) (hK : X.K = K) (h : IxR X (r X.K)) : IxR X (r K) := hK ▸ h
theorem slk (r : PySem.W.Frag → V → Option Int → Option Int → Hp → VK → Prop) (hK : X.K = K) (h : SlR X (r X.K)) : SlR X (r K) := hK ▸ h
end
abbrev rLenA (K : PySem.W.Frag) : List V → Hp → VK → Prop := fun xs H Q => ∃ p ys, xs = [.ref p] ∧ (SqL K H p ys ∨ SqT K H p ys) ∧ Q (.int ys.length) H
abbrev rListA (K : PySem.W.Frag) : List V → Hp → VK → Prop := fun xs H Q => ∃ p ys, xs = [.ref p] ∧ (SqL K H p ys ∨ SqT K H p ys) ∧ ∀ l, H l = none → Q (.ref l) (upd H l (.lst ys))
abbrev rTupleA (K : PySem.W.Frag) : List V → Hp → VK → Prop := fun xs H Q => ∃ p ys, xs = [.ref p] ∧ ((SqL K H p ys ∧ ∀ l, H l = none → Q (.ref l) (upd H l (.tup ys))) ∨ (SqT K H p ys ∧ Q (.ref p) H))
end Fw
/-! ## FwTb -/
set_option Elab.async false
set_option linter.all false
set_option maxRecDepth 100000
set_option maxHeartbeats 2000000
/-! A table: a list of lists of ints, of which the rows are written. -/
namespace Fw
open PySem PySem.Spec PyProof.Rows L2
def RowsD (K : PySem.W.Frag) (F : Hp) : List (List V) → List D → Prop
  | [], [] => True
  | w :: ws, .lst ds :: r => (w.length ≤ sizeLine ∧ Dvs K F w ds) ∧ RowsD K F ws r
  | _, _ => False
theorem RowsD.mono {K : PySem.W.Frag} {F F' : Hp} (e : Sub F F') : ∀ {ws : List (List V)} {r : List D}, RowsD K F ws r → RowsD K F' ws r
  | [], [], _ => trivial
  | w :: ws, .lst ds :: r, h => ⟨⟨h.1.1, h.1.2.mono e⟩, RowsD.mono e h.2⟩
theorem RowsD.snoc {K : PySem.W.Frag} {F : Hp} {w : List V} {ds : List D} (z : w.length ≤ sizeLine) (d : Dvs K F w ds) : ∀ {ws : List (List V)} {r : List D}, RowsD K F ws r → RowsD K F (ws ++ [w]) (r ++ [.lst ds])
  | [], [], _ => ⟨⟨z, d⟩, trivial⟩
  | w' :: ws, .lst ds' :: r, h => ⟨h.1, RowsD.snoc z d h.2⟩
structure RowsIn (B B' : Hp) (rs : List Addr) (ws : List (List V)) : Prop where
  out : ∀ x, x ∉ rs → B' x = B x
  at_ : ∀ (k : Nat) r, rs[k]? = some r → ∃ w, ws[k]? = some w ∧ B' r = some (.lst w)
  nb : ∀ r ∈ rs, B r = none
  nd : rs.Nodup
  len : rs.length = ws.length
theorem RowsIn.nil {B : Hp} : RowsIn B B [] [] := ⟨fun _ _ => rfl, fun _ _ e => by simp at e, (fun _ h => nomatch h), List.nodup_nil, rfl⟩
theorem RowsIn.snoc {B B' : Hp} {rs : List Addr} {ws : List (List V)} {p : Addr} {w : List V} (h : RowsIn B B' rs ws) (hp : B' p = none) (hm : p ∉ rs) : RowsIn B (upd B' p (.lst w)) (rs ++ [p]) (ws ++ [w]) := by
  refine ⟨fun x hx => ?_, fun k r e => ?_, fun r hr => ?_, ?_, by simp [h.len]⟩
  · have h1 : x ∉ rs := fun z => hx (List.mem_append_left _ z)
    have h2 : x ≠ p := fun z => hx (List.mem_append_right _ (by rw [z]; exact List.mem_singleton.mpr rfl))
    rw [upd_ne h2]; exact h.out x h1
  · rw [List.getElem?_append] at e ⊢
    rw [← h.len]
    split at e
    · rename_i hk
      rw [if_pos hk]
      obtain ⟨w', e1, e2⟩ := h.at_ k r e
      have hr : r ≠ p := fun z => hm (z ▸ List.mem_of_getElem? e)
      exact ⟨w', e1, by rw [upd_ne hr]; exact e2⟩
    · rename_i hk
      rw [if_neg hk]
      have hz : k - rs.length = 0 := by
        have := (List.getElem?_eq_some_iff.mp e).1
        simp at this
        omega
      rw [hz] at e ⊢
      simp only [List.getElem?_cons_zero, Option.some.injEq] at e
      subst e
      exact ⟨w, rfl, upd_same⟩
  · rcases List.mem_append.mp hr with z | z
    · exact h.nb r z
    · rw [List.mem_singleton.mp z, ← h.out p hm]; exact hp
  · refine List.nodup_append.mpr ⟨h.nd, by simp, fun a ha b hb => ?_⟩
    rw [List.mem_singleton.mp hb]
    exact fun z => hm (z ▸ ha)
theorem RowsIn.row {B B' : Hp} {rs : List Addr} {ws : List (List V)} (h : RowsIn B B' rs ws) {r : Addr} (m : r ∈ rs) : ∃ w, B' r = some (.lst w) := by
  obtain ⟨k, hk⟩ := List.mem_iff_getElem?.mp m
  obtain ⟨w, _, e⟩ := h.at_ k r hk
  exact ⟨w, e⟩
/-- a new list of new lists -/
def SemTb (K : PySem.W.Frag) (W : Wd) (t : TE) (f : E W.S) : Prop := ∀ B F0 σ H F ρ (s : W.S), Rel K W B F0 σ H F ρ s → ∀ d ρ' s', f ρ s = some (d, ρ', s') → ∀ Q : VK,
  (∀ p rs ws ds B' H' F', d = .lst ds → RowsIn B B' rs ws → p ∉ rs → B p = none → F' p = none → (∀ r ∈ rs, F' r = none) → Rel K W (upd B' p (.lst (rs.map V.ref))) F0 σ H' F' ρ' s' → Sub F F' → rs.length ≤ sizeLine → RowsD K F' ws ds → Q (.ref p) H') → t σ H Q
section
variable {K : PySem.W.Frag} {W : Wd}
theorem Rel.backB {B F0 H F : Hp} {σ σ' : L2.St} {ρ : Env} {s : W.S} {B0 Hi Fi : Hp} {ρ0 : Env} {s0 : W.S} {l : List Nat} (R0 : Rel K W B0 F0 σ Hi Fi ρ0 s0) (R : Rel K W B F0 σ' H F ρ s) (sub : Sub Fi F) (hl : σ'.length = σ.length) (ho : ∀ i, i ∉ l → σ'[i]? = σ[i]?) (hn : l.all (notOw ρ0) = true) :
    Rel K W B F0 σ H F (backE ρ0 l ρ) s := by
  have get : ∀ (i : Nat) (x : Sl), (backE ρ0 l ρ)[i]? = some (some x) → (i ∈ l ∧ ρ0[i]? = some (some x)) ∨ (i ∉ l ∧ ρ[i]? = some (some x)) := fun i x e => by
    rw [backE_at] at e
    by_cases hm : i ∈ l
    · rw [if_pos hm] at e
      split at e
      · left
        refine ⟨hm, ?_⟩
        rw [List.getD_eq_getElem?_getD] at e
        cases q : ρ0[i]? with
        | none => rw [q] at e; cases e
        | some y => rw [q] at e; simpa using e
      · cases e
    · rw [if_neg hm] at e
      exact .inr ⟨hm, e⟩
  have sh0 : ∀ (i : Nat) (x : Sl), i ∈ l → ρ0[i]? = some (some x) → ∃ d, x = Sl.sh d := fun i x hm e => notOw_sh (List.all_eq_true.mp hn i hm) e
  refine ⟨R.bh, R.fh, R.ff, R.fb, R.of, R.ob, R.st, by rw [backE_len, ← R.len]; exact hl.symm, fun i d e => ?_, fun i d e => ?_, fun i j d f a h1 h2 g1 g2 => ?_⟩
  · rcases get i _ e with ⟨hm, q⟩ | ⟨hm, q⟩
    · obtain ⟨v, h1, h2⟩ := R0.sl.sh i d q
      exact ⟨v, h1, h2.mono sub⟩
    · rw [← ho i hm]; exact R.sl.sh i d q
  · rcases get i _ e with ⟨hm, q⟩ | ⟨hm, q⟩
    · obtain ⟨d', hd⟩ := sh0 i _ hm q
      cases hd
    · rw [← ho i hm]; exact R.sl.ow i d q
  · rcases get i _ h1 with ⟨hm, q⟩ | ⟨hm, q⟩
    · obtain ⟨d', hd⟩ := sh0 i _ hm q
      cases hd
    · rcases get j _ h2 with ⟨hm', q'⟩ | ⟨hm', q'⟩
      · obtain ⟨d', hd⟩ := sh0 j _ hm' q'
        cases hd
      · rw [← ho i hm] at g1
        rw [← ho j hm'] at g2
        exact R.sl.dj i j d f a q q' g1 g2
theorem stb_lc {wi : TI} {g : TG} {tt : TT} {te : TE} {fi : I W.S} {tgt : Tg} {ft : T W.S} {fe : E W.S} {ws own : List Nat} (hi : SemI K W wi fi) (hg : SemG K W g tgt ws) (ht : SemT K W tt ft) (he : SemN K W te fe) (hw : ∀ i ∈ ws, i ∈ own) :
    SemTb K W (tLc wi g tt te own) (eLc fi tgt ft fe own) := fun B F0 σ H F ρ s R d ρ' s' e Q q => by
  unfold eLc at e
  split at e
  · rename_i ds ρ1 s1 h1
    split at e
    · rename_i hn
      split at e
      · rename_i acc ρ2 s2 h2
        cases e
        refine hi B F0 σ H F ρ s R _ _ _ h1 _ fun J H1 F1 R1 sub1 hds hJ => ?_
        intro D hD
        have hBD : B D = none := R1.bh.none hD
        have hFD : F1 D = none := R1.fh.none hD
        have hF0D : F0 D = none := R1.ff.none hFD
        refine ⟨fun i m H2 => ∃ F2 ρa sa rs vs accD B2, RowsIn B B2 rs vs ∧ D ∉ rs ∧ (∀ r ∈ rs, F0 r = none) ∧ Rel K W (upd B2 D (.lst (rs.map V.ref))) F0 σ H2 F2 ρa sa ∧ Sub F1 F2 ∧ m = ds.length - i ∧ i ≤ ds.length ∧ rs.length ≤ i ∧ RowsD K F2 vs accD ∧ lcLoop tgt ft fe own ρ1 (ds.drop i) accD ρa sa = some (acc, ρ', s'),
          ⟨ds.length, F1, ρ1, s1, [], [], [], B, .nil, by simp, by simp, R1.keep hD, Sub.refl F1, by omega, by omega, by simp, trivial, h2⟩, ?_⟩
        rintro i m H2 ⟨F2, ρa, sa, rs, vs, accD, B2, hrw, hDr, hF0r, R2, sub2, rfl, hil, hav, hva, hl⟩
        have hB2D : B2 D = none := by rw [hrw.out D hDr]; exact hBD
        have fnone : ∀ {Bx : Hp} {H' F' : Hp} {ρx : Env} {σx : L2.St} {sx : W.S} {x : Addr}, Rel K W Bx F0 σx H' F' ρx sx → F0 x = none → Bx x ≠ none → F' x = none := fun {Bx H' F' ρx σx sx x} Rx h0 hb => by
          cases z : F' x with
          | none => rfl
          | some o =>
            rcases Rx.fb x (by rw [z]; exact fun w => nomatch w) with y | y
            · exact absurd h0 y
            · exact absurd y hb
        have hF2D : F2 D = none := fnone R2 hF0D (by rw [upd_same]; exact fun z => nomatch z)
        obtain ⟨js, jg⟩ := (hJ.mono sub2) i H2 R2.fh
        by_cases hlt : i < ds.length
        · right
          have hdi : ds[i]? = some ds[i] := List.getElem?_eq_getElem hlt
          obtain ⟨g1, g2⟩ := jg _ hdi
          refine ⟨g1, fun H3 => ∃ F3 ρb sb rs' vs' accD' B3, RowsIn B B3 rs' vs' ∧ D ∉ rs' ∧ (∀ r ∈ rs', F0 r = none) ∧ Rel K W (upd B3 D (.lst (rs'.map V.ref))) F0 σ H3 F3 ρb sb ∧ Sub F2 F3 ∧ rs'.length ≤ i + 1 ∧ RowsD K F3 vs' accD' ∧ lcLoop tgt ft fe own ρ1 (ds.drop (i + 1)) accD' ρb sb = some (acc, ρ', s'), ?_, fun x H3 hy => ?_⟩
          · rintro H3 ⟨F3, ρb, sb, rs', vs', accD', B3, h1', h2', h0', R3, sub3, h3, h4, h5⟩
            exact ⟨ds.length - (i + 1), by omega, F3, ρb, sb, rs', vs', accD', B3, h1', h2', h0', R3, sub2.trans sub3, rfl, hlt, h3, h4, h5⟩
          · rw [List.drop_eq_getElem_cons hlt] at hl
            unfold lcLoop at hl
            have : ∃ F3, Rel K W (upd B2 D (.lst (rs.map V.ref))) F0 σ H3 F3 ρa sa ∧ Sub F2 F3 ∧ Dv K F3 x ds[i] := by
              rcases g2 x H3 hy with ⟨rfl, y2⟩ | ⟨T, xs, t1, rfl, t3⟩
              · exact ⟨F2, R2, Sub.refl F2, y2⟩
              · exact ⟨_, R2.new t1, Sub.upd (R2.fh.none t1), t3⟩
            obtain ⟨F3, R3, sub3, hx⟩ := this
            -- back at the comprehension's own frame
            have back : ∀ {Bx : Hp} {H' F' : Hp} {ρx : Env} {σx : L2.St} {sx : W.S}, Rel K W Bx F0 σx H' F' ρx sx → Sub F1 F' → σx.length = σ.length → (∀ j, j ∉ own → σx[j]? = σ[j]?) → Rel K W Bx F0 σ H' F' (backE ρ1 own ρx) sx := fun {Bx H' F' ρx σx sx} Rx sb hlen hout =>
              Rel.backB R1 Rx sb hlen hout hn
            split at hl
            · rename_i ρt hρt
              refine hg _ F0 _ H3 F3 _ sa (R3.wiped own) x _ _ hx hρt _ fun σ2 G => ?_
              have hout : ∀ j, j ∉ own → σ2[j]? = σ[j]? := fun j hj => by
                rw [G.out j (fun z => hj (hw j z)), wipe_at, if_neg hj]
              have hlen : σ2.length = σ.length := by rw [G.len, wipe_length]
              refine ⟨wipe_eq hlen hout, ?_⟩
              split at hl
              · rename_i ρc sc hc
                split at hl
                · rename_i y ρd sd hd
                  refine ht _ F0 σ2 H3 F3 _ _ G.rel _ _ _ hc _ fun H4 F4 R4 sub4 => ?_
                  rw [if_pos rfl]
                  refine he _ F0 σ2 H4 F4 _ _ R4 _ _ _ hd _ fun p us es H5 F5 hes R5 hBp hF5p sub5 hz5 hv => ?_
                  have hz : rs.length < sizeLine := by
                    have := sizeLine_eq
                    omega
                  have hpD : p ≠ D := fun z => by rw [z, upd_same] at hBp; cases hBp
                  have hB2p : B2 p = none := by rw [upd_ne hpD] at hBp; exact hBp
                  have hpr : p ∉ rs := fun z => by
                    obtain ⟨w, hw'⟩ := hrw.row z
                    rw [hB2p] at hw'
                    cases hw'
                  have hF0p : F0 p = none := R5.ff.none hF5p
                  have swap : upd (upd B2 D (.lst (rs.map V.ref))) p (.lst us) = upd (upd B2 p (.lst us)) D (.lst (rs.map V.ref)) := by
                    funext x
                    by_cases h1 : x = p
                    · subst h1; rw [upd_same, upd_ne hpD, upd_same]
                    · rw [upd_ne h1]
                      by_cases h2 : x = D
                      · subst h2; rw [upd_same, upd_same]
                      · rw [upd_ne h2, upd_ne h2, upd_ne h1]
                  rw [swap] at R5
                  have hF5D : F5 D = none := fnone R5 hF0D (by rw [upd_same]; exact fun z => nomatch z)
                  have hcell : H5 D = some (.lst (rs.map V.ref)) := R5.bh D _ upd_same
                  subst hes
                  refine ⟨rs.map V.ref, hcell, by rw [List.length_map]; exact hz, F5, backE ρ1 own ρd, sd, rs ++ [p], vs ++ [us], accD ++ [.lst es], upd B2 p (.lst us), hrw.snoc hB2p hpr, ?_, ?_, ?_, sub3.trans (sub4.trans sub5), by simp; omega, (hva.mono (sub3.trans (sub4.trans sub5))).snoc hz5 hv, hl⟩
                  · intro z
                    rcases List.mem_append.mp z with z | z
                    · exact hDr z
                    · exact hpD (List.mem_singleton.mp z).symm
                  · intro r hr
                    rcases List.mem_append.mp hr with z | z
                    · exact hF0r r z
                    · rw [List.mem_singleton.mp z]; exact hF0p
                  · have Rb := back R5 (sub2.trans (sub3.trans (sub4.trans sub5))) hlen hout
                    have := Rb.writeB (o' := .lst (rs.map V.ref ++ [V.ref p])) hF5D
                    rw [List.map_append]
                    exact this
                · cases hl
              · rename_i ρc sc hc
                refine ht _ F0 σ2 H3 F3 _ _ G.rel _ _ _ hc _ fun H4 F4 R4 sub4 => ?_
                rw [if_neg Bool.false_ne_true]
                refine ⟨F4, backE ρ1 own ρc, sc, rs, vs, accD, B2, hrw, hDr, hF0r, ?_, sub3.trans sub4, by omega, hva.mono (sub3.trans sub4), hl⟩
                exact back R4 (sub2.trans (sub3.trans sub4)) hlen hout
              · cases hl
            · cases hl
        · left
          have hi' : i = ds.length := by omega
          subst hi'
          rw [List.drop_length] at hl
          unfold lcLoop at hl
          cases hl
          refine ⟨js (Nat.le_refl _), ?_⟩
          exact q D rs vs acc B2 H2 F2 rfl hrw hDr hBD hF2D (fun r hr => fnone R2 (hF0r r hr) (by
            have hrD : r ≠ D := fun z => hDr (z ▸ hr)
            rw [upd_ne hrD]
            obtain ⟨w, hw'⟩ := hrw.row hr
            rw [hw']
            exact fun z => nomatch z)) R2 (sub1.trans sub2) (Nat.le_trans hav (Nat.le_trans hil hds)) hva
      · cases e
    · cases e
  · cases e
end
abbrev Tb := List (List Int)
def tbRows (T : Tb) : List D := T.map fun r => .lst (r.map .int)
/-- a world with a table -/
abbrev TabW (W : Wd) (a : Addr) (rs : List Addr) : Wd where
  S := W.S × Tb
  fp := fun x => W.fp x ∨ x = a ∨ x ∈ rs
  so := fun s H => W.so s.1 H ∧ (∀ x, W.fp x → x ≠ a ∧ x ∉ rs) ∧ rs.Nodup ∧ a ∉ rs ∧ rs.length = s.2.length ∧ rs.length ≤ sizeLine ∧ H a = some (.lst (rs.map V.ref)) ∧
    ∀ (k : Nat) r, rs[k]? = some r → ∃ row, s.2[k]? = some row ∧ row.length ≤ sizeLine ∧ H r = some (.lst (row.map V.int))
  alive := fun {s H x} h hx => by
    obtain ⟨h1, _, _, _, _, _, h2, h3⟩ := h
    rcases hx with e | e | e
    · exact W.alive h1 e
    · rw [e, h2]; exact fun z => nomatch z
    · obtain ⟨k, hk⟩ := List.mem_iff_getElem?.mp e
      obtain ⟨row, _, _, h4⟩ := h3 k x hk
      rw [h4]; exact fun z => nomatch z
  stay := fun {s H H'} h k => by
    obtain ⟨h1, h2, h3, h4, h5, h6, h7, h8⟩ := h
    refine ⟨W.stay h1 fun x hx => k x (.inl hx), h2, h3, h4, h5, h6, (k a (.inr (.inl rfl))).trans h7, fun n r hr => ?_⟩
    obtain ⟨row, e1, e2, e3⟩ := h8 n r hr
    exact ⟨row, e1, e2, (k r (.inr (.inr (List.mem_of_getElem? hr)))).trans e3⟩
section
variable {K : PySem.W.Frag} {W : Wd} {B F0 H H' F F' : Hp} {σ σ' : L2.St} {ρ ρ' : Env} {s s' : W.S}
/-- the world alone has moved -/
theorem Rel.fpUpd (R : Rel K W B F0 σ H F ρ s) (h : ∀ x, ¬ W.fp x → H' x = H x) (st : W.so s' H') : Rel K W B F0 σ H' F ρ s' := by
  have nb : ∀ x o, B x = some o → ¬ W.fp x := fun x o e z => by rw [R.ob x z] at e; cases e
  have nf : ∀ x o, F x = some o → ¬ W.fp x := fun x o e z => by rw [R.of x z] at e; cases e
  refine ⟨fun x o e => (h x (nb x o e)).trans (R.bh x o e), fun x o e => (h x (nf x o e)).trans (R.fh x o e), R.ff, R.fb, R.of, R.ob, st, R.len, R.sl.sh, fun i d e => ?_, R.sl.dj⟩
  obtain ⟨a, h1, h2, h3, h4, h5⟩ := R.sl.ow i d e
  exact ⟨a, h1, h2, h3, h4, h5.mono (Sub.refl F) (h a h4)⟩
theorem RowsD.ints : ∀ {ws : List (List V)} {T : Tb}, RowsD K F ws (tbRows T) → ws.length = T.length ∧ ∀ (k : Nat) w, ws[k]? = some w → ∃ row, T[k]? = some row ∧ row.length ≤ sizeLine ∧ w = row.map V.int
  | [], [], _ => ⟨rfl, fun k w e => by simp at e⟩
  | w :: ws, row :: T, h => by
    obtain ⟨h1, h2⟩ := RowsD.ints (ws := ws) (T := T) h.2
    have hi : w = row.map V.int := h.1.2.ints _ (by
      have : ∀ l : List Int, ints? (l.map D.int) = some l := fun l => by
        induction l with
        | nil => rfl
        | cons x r ih =>
          show (match D.int x, ints? (r.map D.int) with
            | .int i, some is => some (i :: is)
            | _, _ => none) = _
          rw [ih]
      exact this row)
    refine ⟨by simp [h1], fun k w' e => ?_⟩
    cases k with
    | zero =>
      simp only [List.getElem?_cons_zero, Option.some.injEq] at e
      subst e
      exact ⟨row, rfl, by have := h.1.1; rw [hi, List.length_map] at this; exact this, hi⟩
    | succ k => exact h2 k w' (by simpa using e)
/-- a table has come -/
theorem Rel.tab {B' : Hp} {p : Addr} {rs : List Addr} {ws : List (List V)} {T : Tb} {i : Nat} (hr : RowsIn B B' rs ws) (hp : p ∉ rs) (hB : B p = none) (hF : F p = none) (hFr : ∀ r ∈ rs, F r = none) (R : Rel K W (upd B' p (.lst (rs.map V.ref))) F0 σ H F ρ s)
    (hz : rs.length ≤ sizeLine) (hd : RowsD K F ws (tbRows T)) : Rel K (TabW W p rs) B F0 (σ.set i (some (.ref p))) H F (ρ.set i (some (Sl.sh (.obj p)))) (s, T) := by
  obtain ⟨hl, hw⟩ := hd.ints
  have bp : upd B' p (.lst (rs.map V.ref)) p ≠ none := by rw [upd_same]; exact fun z => nomatch z
  have br : ∀ r ∈ rs, upd B' p (.lst (rs.map V.ref)) r ≠ none := fun r m => by
    have : r ≠ p := fun z => hp (z ▸ m)
    rw [upd_ne this]
    obtain ⟨w, e⟩ := hr.row m
    rw [e]; exact fun z => nomatch z
  have dis : ∀ x, W.fp x → x ≠ p ∧ x ∉ rs := fun x hx => ⟨fun z => bp (z ▸ R.ob x hx), fun z => br x z (R.ob x hx)⟩
  have R1 : Rel K (TabW W p rs) B F0 σ H F ρ (s, T) := by
    refine ⟨fun x o e => R.bh x o ?_, R.fh, R.ff, fun x hx => ?_, fun x hx => ?_, fun x hx => ?_, ⟨R.st, dis, hr.nd, hp, by rw [hr.len, hl], hz, R.bh p _ upd_same, fun k r e => ?_⟩, R.len, R.sl.sh, fun j d e => ?_, R.sl.dj⟩
    · have h1 : x ≠ p := fun z => by rw [z, hB] at e; cases e
      have h2 : x ∉ rs := fun z => by rw [hr.nb x z] at e; cases e
      rw [upd_ne h1, hr.out x h2]; exact e
    · rcases R.fb x hx with z | z
      · exact .inl z
      · by_cases h1 : x = p
        · exact absurd z (h1 ▸ bp)
        · by_cases h2 : x ∈ rs
          · exact absurd z (br x h2)
          · rw [upd_ne h1, hr.out x h2] at z; exact .inr z
    · rcases hx with z | z | z
      · exact R.of x z
      · rw [z]; exact hF
      · exact hFr x z
    · rcases hx with z | z | z
      · obtain ⟨h1, h2⟩ := dis x z
        have := R.ob x z
        rw [upd_ne h1, hr.out x h2] at this
        exact this
      · rw [z]; exact hB
      · exact hr.nb x z
    · obtain ⟨w, e1, e2⟩ := hr.at_ k r e
      obtain ⟨row, f1, f2, f3⟩ := hw k w e1
      have : r ≠ p := fun z => hp (z ▸ List.mem_of_getElem? e)
      refine ⟨row, f1, f2, ?_⟩
      rw [← f3]
      exact R.bh r _ (by rw [upd_ne this]; exact e2)
    · obtain ⟨a, h1, h2, h3, h4, h5⟩ := R.sl.ow j d e
      have n1 : a ≠ p := fun z => bp (z ▸ h2)
      have n2 : a ∉ rs := fun z => br a z h2
      rw [upd_ne n1, hr.out a n2] at h2
      exact ⟨a, h1, h2, h3, fun z => z.elim h4 fun z => z.elim n1 n2, h5⟩
  exact R1.setSh (.obj p)
/-- the table is given away -/
theorem Rel.untab {a : Addr} {rs : List Addr} {T : Tb} (R : Rel K (TabW W a rs) B F0 [] H F [] (s, T)) :
    ∃ F', Sub F F' ∧ Rel K W B F0 [] H F' [] s ∧ Dv K F' (.ref a) (.lst (tbRows T)) := by
  obtain ⟨h1, h2, h3, h4, h5, h6, h7, h8⟩ := R.st
  classical
  let F' : Hp := fun x => if x = a ∨ x ∈ rs then H x else F x
  have in' : ∀ x, (x = a ∨ x ∈ rs) → F' x = H x := fun x hx => if_pos hx
  have out' : ∀ x, ¬ (x = a ∨ x ∈ rs) → F' x = F x := fun x hx => if_neg hx
  have sub : Sub F F' := fun x o e => by
    by_cases hx : x = a ∨ x ∈ rs
    · have := R.of x (.inr hx)
      rw [this] at e; cases e
    · rw [out' x hx]; exact e
  refine ⟨F', sub, ⟨R.bh, fun x o e => ?_, R.ff.trans sub, fun x hx => ?_, fun x hx => ?_, fun x hx => R.ob x (.inl hx), h1, rfl, fun i d e => by simp at e, fun i d e => by simp at e, fun i j d e a h => by simp at h⟩, ?_⟩
  · by_cases hx : x = a ∨ x ∈ rs
    · rw [in' x hx] at e; exact e
    · rw [out' x hx] at e; exact R.fh x o e
  · by_cases hm : x = a ∨ x ∈ rs
    · exact .inr (R.ob x (.inr hm))
    · rw [out' x hm] at hx; exact R.fb x hx
  · have hm : ¬ (x = a ∨ x ∈ rs) := fun z => by
      obtain ⟨n1, n2⟩ := h2 x hx
      exact z.elim n1 n2
    rw [out' x hm]; exact R.of x (.inl hx)
  · refine .lst (by rw [in' a (.inl rfl)]; exact h7) (by rw [List.length_map]; exact h6) ?_
    have key : ∀ (l : List Addr) (T' : Tb), (∀ r ∈ l, r ∈ rs) → l.length = T'.length → (∀ (k : Nat) r, l[k]? = some r → ∃ row, T'[k]? = some row ∧ row.length ≤ sizeLine ∧ H r = some (.lst (row.map V.int))) → Dvs K F' (l.map V.ref) (tbRows T') := fun l => by
      induction l with
      | nil =>
        intro T' _ hl _
        cases T' with
        | nil => exact .nil
        | cons _ _ => simp at hl
      | cons r l ih =>
        intro T' hm hl hk
        cases T' with
        | nil => simp at hl
        | cons row T' =>
          obtain ⟨row', e1, e2, e3⟩ := hk 0 r rfl
          simp only [List.getElem?_cons_zero, Option.some.injEq] at e1
          subst e1
          refine .cons (.lst (by rw [in' r (.inr (hm r (List.mem_cons_self ..)))]; exact e3) (by rw [List.length_map]; exact e2) ?_) (ih T' (fun r' h' => hm r' (List.mem_cons_of_mem _ h')) (by simpa using hl) fun k r' h' => hk (k + 1) r' (by simpa using h'))
          have : ∀ l : List Int, Dvs K F' (l.map V.int) (l.map D.int) := fun l => by
            induction l with
            | nil => exact .nil
            | cons x r ih => exact .cons (.int x) ih
          exact this row
    exact key rs T (fun _ h => h) h5 h8
theorem Rel.noTab {a : Addr} {rs : List Addr} {T : Tb} (R : Rel K (TabW W a rs) B F0 [] H F [] (s, T)) : Rel K W B F0 [] H F [] s :=
  ⟨R.bh, R.fh, R.ff, R.fb, fun x hx => R.of x (.inl hx), fun x hx => R.ob x (.inl hx), R.st.1, rfl, fun i d e => by simp at e, fun i d e => by simp at e, fun i j d e a h => by simp at h⟩

/-- table[x][y] -/
def eTabIx {S : Type} (a : Addr) (t : Nat) (fx fy : E (S × Tb)) : E (S × Tb) := fun ρ s => match ρ[t]? with
  | some (some (.sh (.obj b))) => if b = a then (match fx ρ s with
    | some (.int i, ρ1, s1) => if (atD s1.2 i).isSome = true then (match fy ρ1 s1 with
      | some (.int j, ρ2, s2) => (match (atD s2.2 i).bind fun row => atD row j with | some z => some (.int z, ρ2, s2) | none => none)
      | _ => none) else none
    | _ => none) else none
  | _ => none
theorem atD_row {α β : Type} {xs : List α} {ys : List β} {i : Int} {y : β} (hl : xs.length = ys.length) (h : atD ys i = some y) : ∃ k x, ixN xs.length i = some k ∧ xs[k]? = some x ∧ ys[k]? = some y := by
  unfold atD at h
  rw [← hl, ← ixD_eq] at h
  obtain ⟨k, h1, h2⟩ := Option.bind_eq_some_iff.mp h
  have hk : k < xs.length := by rw [hl]; exact (List.getElem?_eq_some_iff.mp h2).1
  exact ⟨k, xs[k], h1, List.getElem?_eq_getElem hk, h2⟩
theorem se_tabIx {a : Addr} {rs : List Addr} {t : Nat} {tx ty : TE} {fx fy : E (W.S × Tb)} (hx : SemE K (TabW W a rs) tx fx) (hy : SemE K (TabW W a rs) ty fy) : SemE K (TabW W a rs) (tOp (rIx K) (tOp (rIx K) (tVar t) tx) ty) (eTabIx a t fx fy) := fun B F0 σ H F ρ s R d ρ' s' e Q q => by
  unfold eTabIx at e
  split at e
  · rename_i b hb
    split at e
    · rename_i hba
      subst hba
      split at e
      · rename_i i ρ1 s1 h1
        split at e
        case isFalse => cases e
        rename_i hsome
        split at e
        · rename_i j ρ2 s2 h2
          split at e
          · rename_i z h3
            cases e
            obtain ⟨v, g1, g2⟩ := R.sl.sh t _ hb
            cases g2
            refine ⟨_, g1, hx B F0 σ H F ρ s R _ _ _ h1 _ fun v1 H1 F1 R1 sub1 d1 => ?_⟩
            cases d1
            obtain ⟨row, r1, r2⟩ := Option.bind_eq_some_iff.mp h3
            obtain ⟨_, _, _, _, l1, _, m1, n1⟩ := R1.st
            have hlen : (rs.map V.ref).length = rs.length := List.length_map ..
            -- the row's place
            have : ∃ k r, ixN (rs.map V.ref).length i = some k ∧ rs[k]? = some r := by
              obtain ⟨y, hy'⟩ := Option.isSome_iff_exists.mp hsome
              obtain ⟨k, x, f1, f2, _⟩ := atD_row l1 hy'
              exact ⟨k, x, by rw [hlen]; exact f1, f2⟩
            obtain ⟨k, r, hk1, hk2⟩ := this
            refine .inl ⟨b, _, i, .ref r, rfl, rfl, .of m1, by show (ixN _ i).bind _ = _; rw [hk1]; simp [hk2], hy B F0 σ H1 F1 _ _ R1 _ _ _ h2 _ fun v2 H2 F2 R2 sub2 d2 => ?_⟩
            cases d2
            obtain ⟨_, _, _, _, l2, _, m2, n2⟩ := R2.st
            obtain ⟨k', r', f1, f2, f3⟩ := atD_row l2 r1
            have : k' = k := by
              rw [hlen] at hk1
              rw [hk1] at f1
              exact (Option.some.inj f1).symm
            subst this
            obtain ⟨row', e1, e2, e3⟩ := n2 k' r hk2
            rw [f3] at e1
            cases e1
            obtain ⟨k3, w3, t1, t2, t3⟩ := atD_row (xs := row.map V.int) (by simp) r2
            refine .inl ⟨r, _, j, .int z, rfl, rfl, .of e3, ?_, q _ H2 F2 R2 (sub1.trans sub2) (.int z)⟩
            show (ixN _ j).bind _ = _
            rw [t1]
            simp [t3]
          · cases e
        · cases e
      · cases e
    · cases e
  · cases e
/-- table[x][y] = e -/
def sTabSet {S : Type} (a : Addr) (t : Nat) (fe fx fy : E (S × Tb)) : C (S × Tb) := fun ρ s => match fe ρ s with
  | some (.int z, ρ0, s0) => (match ρ0[t]? with
    | some (some (.sh (.obj b))) => if b = a then (match fx ρ0 s0 with
      | some (.int i, ρ1, s1) => if (atD s1.2 i).isSome = true then (match fy ρ1 s1 with
        | some (.int j, ρ2, s2) => (match ixD s2.2.length i with
          | some k => (match s2.2[k]? with
            | some row => (match ixD row.length j with | some l => some (.nx, ρ2, (s2.1, s2.2.set k (row.set l z))) | none => none)
            | none => none)
          | none => none)
        | _ => none) else none
      | _ => none) else none
    | _ => none)
  | _ => none
theorem ss_tabSet {a : Addr} {rs : List Addr} {t : Nat} {te tx ty : TE} {fe fx fy : E (W.S × Tb)} (he : SemE K (TabW W a rs) te fe) (hx : SemE K (TabW W a rs) tx fx) (hy : SemE K (TabW W a rs) ty fy) :
    SemS K (TabW W a rs) (tAsg te (gSub (tOp (rIx K) (tVar t) tx) ty rSetL)) (sTabSet a t fe fx fy) := fun B F0 σ H F ρ s R o e Dd q => by
  unfold sTabSet at e
  split at e
  case h_2 => cases e
  rename_i z ρ0 s0 h0
  split at e
  case h_2 => cases e
  rename_i b hb
  split at e
  case isFalse => cases e
  rename_i hba
  subst hba
  split at e
  case h_2 => cases e
  rename_i i ρ1 s1 h1
  split at e
  case isFalse => cases e
  rename_i hsome
  split at e
  case h_2 => cases e
  rename_i j ρ2 s2 h2
  split at e
  case h_2 => cases e
  rename_i k hk
  split at e
  case h_2 => cases e
  rename_i row hrow
  split at e
  case h_2 => cases e
  rename_i l hl
  cases e
  refine he B F0 σ H F ρ s R _ _ _ h0 _ fun v0 H0 F1 R0 sub0 d0 => ?_
  cases d0
  obtain ⟨v, g1, g2⟩ := R0.sl.sh t _ hb
  cases g2
  refine ⟨_, g1, hx B F0 σ H0 F1 ρ0 s0 R0 _ _ _ h1 _ fun v1 H1 F2 R1 sub1 d1 => ?_⟩
  cases d1
  obtain ⟨_, _, _, _, l1, _, m1, n1⟩ := R1.st
  have hlen : (rs.map V.ref).length = rs.length := List.length_map ..
  have : ∃ k r, ixN (rs.map V.ref).length i = some k ∧ rs[k]? = some r := by
    obtain ⟨y, hy'⟩ := Option.isSome_iff_exists.mp hsome
    obtain ⟨k, x, f1, f2, _⟩ := atD_row l1 hy'
    exact ⟨k, x, by rw [hlen]; exact f1, f2⟩
  obtain ⟨k', r, hk1, hk2⟩ := this
  refine .inl ⟨b, _, i, .ref r, rfl, rfl, .of m1, by show (ixN _ i).bind _ = _; rw [hk1]; simp [hk2], hy B F0 σ H1 F2 _ _ R1 _ _ _ h2 _ fun v2 H2 F3 R2 sub2 d2 => ?_⟩
  cases d2
  obtain ⟨p1, p2, p3, p4, l2, p6, m2, n2⟩ := R2.st
  have ek : k' = k := by
    rw [hlen, l2] at hk1
    rw [← ixD_eq, hk1] at hk
    exact Option.some.inj hk
  subst ek
  obtain ⟨row', e1, e2, e3⟩ := n2 k' r hk2
  rw [hrow] at e1
  cases e1
  refine ⟨r, _, j, l, rfl, rfl, e3, by rw [List.length_map]; exact hl, ?_⟩
  have hra : r ≠ b := fun x => p4 (x ▸ List.mem_of_getElem? hk2)
  have hrf : (TabW W b rs).fp r := .inr (.inr (List.mem_of_getElem? hk2))
  refine q _ _ F3 (R2.fpUpd (s' := (s2.1, s2.2.set k' (row.set l z))) (fun x hx => upd_ne fun y => hx (y ▸ hrf)) ⟨W.stay p1 fun x hx => upd_ne fun y => (p2 x hx).2 (y ▸ List.mem_of_getElem? hk2), p2, p3, p4, by rw [List.length_set]; exact l2, p6, (upd_ne (Ne.symm hra)).trans m2, fun n r' hr' => ?_⟩) ((sub0.trans sub1).trans sub2)
  by_cases hn : n = k'
  · subst hn
    rw [hk2] at hr'
    cases hr'
    refine ⟨row.set l z, ?_, by rw [List.length_set]; exact e2, ?_⟩
    · have : n < s2.2.length := (List.getElem?_eq_some_iff.mp hrow).1
      simp [List.getElem?_set, this]
    · exact (upd_same).trans (by rw [List.map_set])
  · have hne : r' ≠ r := fun y => by
      subst y
      obtain ⟨u1, u2⟩ := List.getElem?_eq_some_iff.mp hr'
      obtain ⟨u3, u4⟩ := List.getElem?_eq_some_iff.mp hk2
      rcases Nat.lt_or_gt_of_ne hn with y | y
      · exact List.pairwise_iff_getElem.mp p3 n k' u1 u3 y (u2.trans u4.symm)
      · exact List.pairwise_iff_getElem.mp p3 k' n u3 u1 y (u4.trans u2.symm)
    obtain ⟨w, w1, w2, w3⟩ := n2 n r' hr'
    exact ⟨w, by rw [List.getElem?_set_ne (Ne.symm hn)]; exact w1, w2, (upd_ne hne).trans w3⟩
/-- what a table becomes when it is given back -/
def detab (a : Addr) (T : Tb) : D → D
  | .obj b => if b = a then .lst (tbRows T) else .obj b
  | d => d
/-- a table is made, then it alone is worked at, to the def's end -/
theorem ss_tab {i : Nat} {te : TE} {t2 : TS} {fe : E W.S} {f2 : Addr → C (W.S × Tb)} {f : C W.S} (he : SemTb K W te fe) (h2 : ∀ a rs, SemS K (TabW W a rs) t2 (f2 a))
    (hf : ∀ ρ s o, f ρ s = some o → ∃ ρ' s' T, fe ρ s = some (.lst (tbRows T), ρ', s') ∧ ∀ a, ∃ d ρ2 s2 T2, f2 a (ρ'.set i (some (Sl.sh (.obj a)))) (s', T) = some (.rt d, ρ2, (s2, T2)) ∧ ∃ ρ3, o = (.rt (detab a T2 d), ρ3, s2)) :
    SemS K W (tSeq (tAsg te (gName i)) t2) f := fun B F0 σ H F ρ s R o e Dd q => by
  obtain ⟨ρ', s', T, h1, h3⟩ := hf ρ s o e
  refine he B F0 σ H F ρ s R _ _ _ h1 _ fun p rs ws ds B' H' F' hd hrw hp hB hF hFr R1 sub hz hD => ?_
  cases hd
  obtain ⟨d, ρ2, s2, T2, h4, ρ3, ho⟩ := h3 p
  subst ho
  refine h2 p rs B F0 _ H' F' _ _ (Rel.tab hrw hp hB hF hFr R1 hz hD) _ h4 _ ?_
  intro v H2 F2 R2 sub2 dv
  have other : detab p T2 d = d → Dd.rt v H2 := fun hd => by
    rw [hd] at q
    exact q v H2 F2 R2.noTab (sub.trans sub2) dv
  cases d with
  | obj b =>
    by_cases hb : b = p
    · subst hb
      cases dv
      obtain ⟨F3, sub3, R3, d3⟩ := R2.untab
      have hd : detab b T2 (.obj b) = .lst (tbRows T2) := if_pos rfl
      rw [hd] at q
      exact q _ H2 F3 R3 (sub.trans (sub2.trans sub3)) d3
    · exact other (if_neg hb)
  | _ => exact other rfl
end
end Fw
/-! ## FwK -/
set_option Elab.async false
set_option linter.all false
set_option maxRecDepth 100000
set_option maxHeartbeats 1000000
/-! Dicts whose keys are ints or texts; sorted; a star in a display; x[k] += e. -/
namespace Fw
open PySem PySem.Spec PyProof.Rows L2 FwZ
section
variable {K : PySem.W.Frag} {W : Wd} {B F0 H H' F F' : Hp} {σ σ' : L2.St} {ρ ρ' : Env} {s s' : W.S} {i : Nat} {ta tb te : TE} {fa fb fe : E W.S}
theorem key_dv {F : Hp} {v : V} {d : D} {k : Key} (h : Dv K F v d) (e : key? d = some k) : v = kV k := by
  cases h <;> simp only [key?, reduceCtorEq, Option.some.injEq] at e <;> subst e <;> rfl
theorem val_zip {F : Hp} {k : L2.Key} : ∀ {ks : List L2.Key} {vs : List V} {ds : List D}, Dvs K F vs ds → ks.length = vs.length →
    (∀ d, dval (ks.zip ds) k = some d → ∃ v, valV (ks.zip vs) k = some v ∧ Dv K F v d) ∧ (valV (ks.zip vs) k).isSome = (dval (ks.zip ds) k).isSome
  | [], [], [], _, _ => ⟨fun d h => (by cases h), rfl⟩
  | k' :: ks, v :: vs, d :: ds, .cons h r, hl => by
    obtain ⟨a, b⟩ := val_zip (k := k) r (by simpa using hl)
    by_cases e : k' = k
    · have e1 : valV ((k' :: ks).zip (v :: vs)) k = some v := valV_pos (p := (k', v)) e
      have e2 : dval ((k' :: ks).zip (d :: ds)) k = some d := by unfold dval; simp [List.find?_cons, e]
      rw [e1, e2]
      exact ⟨fun d' h' => by cases h'; exact ⟨v, rfl, h⟩, rfl⟩
    · have e1 : valV ((k' :: ks).zip (v :: vs)) k = valV (ks.zip vs) k := valV_neg (p := (k', v)) e
      have e2 : dval ((k' :: ks).zip (d :: ds)) k = dval (ks.zip ds) k := by unfold dval; simp [List.find?_cons, e]
      rw [e1, e2]
      exact ⟨a, b⟩
  | [], _ :: _, _, _, hl => by simp at hl
  | _ :: _, [], _, _, hl => by simp at hl
theorem any_zip {k : L2.Key} {α : Type} : ∀ {ks : List L2.Key} {vs : List α}, ks.length = vs.length → ((ks.zip vs).any fun kv => decide (kv.1 = k)) = ks.any fun j => decide (j = k)
  | [], [], _ => rfl
  | _ :: ks, _ :: vs, hl => by
    rw [List.zip_cons_cons, List.any_cons, List.any_cons, any_zip (by simpa using hl)]
  | [], _ :: _, hl => by simp at hl
  | _ :: _, [], hl => by simp at hl
theorem map_zip {F : Hp} {k : L2.Key} {v : V} {d : D} (hv : Dv K F v d) : ∀ {ks : List L2.Key} {vs : List V} {ds : List D}, Dvs K F vs ds → ks.length = vs.length →
    ∃ vs' ds', (ks.zip vs).map (fun kv => if kv.1 = k then (kv.1, v) else kv) = ks.zip vs' ∧ (ks.zip ds).map (fun kv => if kv.1 = k then (kv.1, d) else kv) = ks.zip ds' ∧ ks.length = vs'.length ∧ Dvs K F vs' ds'
  | [], [], [], _, _ => ⟨[], [], rfl, rfl, rfl, .nil⟩
  | k' :: ks, w :: vs, e :: ds, .cons h r, hl => by
    obtain ⟨vs', ds', a, b, c, q⟩ := map_zip hv r (ks := ks) (by simpa using hl)
    by_cases z : k' = k
    · refine ⟨v :: vs', d :: ds', ?_, ?_, by simp [c], .cons hv q⟩
      · rw [List.zip_cons_cons, List.map_cons, a, if_pos z, List.zip_cons_cons]
      · rw [List.zip_cons_cons, List.map_cons, b, if_pos z, List.zip_cons_cons]
    · refine ⟨w :: vs', e :: ds', ?_, ?_, by simp [c], .cons h q⟩
      · rw [List.zip_cons_cons, List.map_cons, a, if_neg z, List.zip_cons_cons]
      · rw [List.zip_cons_cons, List.map_cons, b, if_neg z, List.zip_cons_cons]
  | [], _ :: _, _, _, hl => by simp at hl
  | _ :: _, [], _, _, hl => by simp at hl
theorem snoc_zip {α : Type} {x : α} {k : L2.Key} : ∀ {ks : List L2.Key} {vs : List α}, ks.length = vs.length → ks.zip vs ++ [(k, x)] = (ks ++ [k]).zip (vs ++ [x])
  | [], [], _ => rfl
  | _ :: ks, _ :: vs, hl => by
    rw [List.zip_cons_cons, List.cons_append, snoc_zip (by simpa using hl)]
    rfl
  | [], _ :: _, hl => by simp at hl
  | _ :: _, [], hl => by simp at hl
theorem put_zip {F : Hp} {k : L2.Key} {v : V} {d : D} (hv : Dv K F v d) {ks : List L2.Key} {vs : List V} {ds : List D} (r : Dvs K F vs ds) (hl : ks.length = vs.length) :
    ∃ (ks' : List L2.Key) (vs' : List V) (ds' : List D), putK (ks.zip vs) k v = ks'.zip vs' ∧ dput (ks.zip ds) k d = ks'.zip ds' ∧ ks'.length = vs'.length ∧ Dvs K F vs' ds' := by
  have hl2 : ks.length = ds.length := by rw [hl, r.length]
  unfold putK dput
  rw [any_zip hl, any_zip hl2]
  split
  · obtain ⟨vs', ds', a, b, c, q⟩ := map_zip hv r hl
    exact ⟨ks, vs', ds', a, b, c, q⟩
  · exact ⟨ks ++ [k], vs ++ [v], ds ++ [d], snoc_zip hl, snoc_zip hl2, by simp [hl], r.append (.cons hv .nil)⟩
theorem dct_inv {F : Hp} {v : V} {kvs : List (Key × D)} (h : Dv K F v (.dct kvs)) : ∃ (a : Addr) (ks : List L2.Key) (vs : List V) (ds : List D), v = .ref a ∧ kvs = ks.zip ds ∧ F a = some (.dK (ks.zip vs)) ∧ ks.length = vs.length ∧ Dvs K F vs ds := by
  generalize e : D.dct kvs = d at h
  cases h with
  | dct h1 r l => cases e; exact ⟨_, _, _, _, rfl, rfl, h1, l, r⟩
  | _ => cases e
/-! ### in, item, store -/
def rKIn : R2 := fun y x H Q => ∃ a o, x = .ref a ∧ DGet H a y o ∧ Q (.bl o.isSome) H
def rKNotIn : R2 := fun y x H Q => ∃ a o, x = .ref a ∧ DGet H a y o ∧ Q (.bl (!o.isSome)) H
def rKGet : R2 := fun x y H Q => ∃ a v, x = .ref a ∧ DGet H a y (some v) ∧ Q v H
theorem f2_kin : Flat2 K rKIn dKIn := fun F x y dx dy d hx hy e => by
  cases dy with
  | dct kvs =>
    obtain ⟨a, ks, vs, ds, rfl, rfl, h1, hl, r⟩ := dct_inv hy
    simp only [dKIn, Option.map_eq_some_iff] at e
    obtain ⟨k, hk, rfl⟩ := e
    have ex := key_dv hx hk
    refine ⟨_, fun F => .bl _, fun H Q sub q => ?_⟩
    refine ⟨a, valV (ks.zip vs) k, rfl, ?_, ?_⟩
    · rw [ex]; exact DGet.k (sub _ _ h1)
    · rw [(val_zip (k := k) r hl).2]; exact q
  | _ => cases e
theorem f2_knin : Flat2 K rKNotIn dKNotIn := fun F x y dx dy d hx hy e => by
  cases dy with
  | dct kvs =>
    obtain ⟨a, ks, vs, ds, rfl, rfl, h1, hl, r⟩ := dct_inv hy
    simp only [dKNotIn, Option.map_eq_some_iff] at e
    obtain ⟨k, hk, rfl⟩ := e
    have ex := key_dv hx hk
    refine ⟨_, fun F => .bl _, fun H Q sub q => ?_⟩
    refine ⟨a, valV (ks.zip vs) k, rfl, ?_, ?_⟩
    · rw [ex]; exact DGet.k (sub _ _ h1)
    · rw [(val_zip (k := k) r hl).2]; exact q
  | _ => cases e
theorem r2_kget : SemR2 K W rKGet dKGet := fun B F0 σ H F ρ s R x y dx dy d hx hy e Q q => by
  cases dx with
  | dct kvs =>
    obtain ⟨a, ks, vs, ds, rfl, rfl, h1, hl, r⟩ := dct_inv hx
    simp only [dKGet, Option.bind_eq_some_iff] at e
    obtain ⟨k, hk, hd⟩ := e
    have ex := key_dv hy hk
    obtain ⟨v, hv, dv⟩ := (val_zip (k := k) r hl).1 d hd
    refine ⟨a, v, rfl, ?_, q v H F R (Sub.refl F) dv⟩
    rw [ex, ← hv]
    exact DGet.k (R.fh _ _ h1)
  | _ => cases e
/-- an item of an owned dict -/
theorem se_blGet {tb : TE} {fb : E W.S} (hb : SemE K W tb fb) {i : Nat} : SemE K W (tDGet (tVar i) tb) (eBL dKGet i fb) := fun B F0 σ H F ρ s R d ρ' s' e Q q => by
  unfold eBL at e
  split at e
  · rename_i x0 hx0
    split at e
    · rename_i y ρ1 s1 h1
      split at e
      · rename_i x hx
        split at e
        · rename_i z hz
          cases e
          obtain ⟨v0, _, g0, _⟩ := R.look hx0
          refine ⟨v0, g0, hb B F0 σ H F ρ s R _ _ _ h1 _ fun w H1 F1 R1 sub1 d1 => ?_⟩
          cases x with
          | sh dx =>
            obtain ⟨v, g1, g2⟩ := R1.sl.sh i dx hx
            rw [g0] at g1
            cases g1
            exact r2_kget B F0 σ H1 F1 _ _ R1 v0 w dx y d g2 d1 hz Q fun v' H' F' R' sub' d' => q v' H' F' R' (sub1.trans sub') d'
          | ow dx =>
            obtain ⟨a, g1, _, _, _, hh⟩ := R1.sl.ow i dx hx
            rw [g0] at g1
            cases g1
            cases dx with
            | dct kvs =>
              obtain ⟨ks, vs, ds, rfl, g5, hl, r⟩ := hh.d
              simp only [Sl.d, dKGet, Option.bind_eq_some_iff] at hz
              obtain ⟨k, hk, hd⟩ := hz
              have ex := key_dv d1 hk
              obtain ⟨v, hv, dv⟩ := (val_zip (k := k) r hl).1 d hd
              refine ⟨a, v, rfl, ?_, q v H1 F1 R1 sub1 dv⟩
              rw [ex, ← hv]
              exact DGet.k g5
            | _ => cases hz
        · cases e
      · cases e
    · cases e
  · cases e
theorem ss_putK (ha : SemE K W ta fa) {tk : TE} {fk : E W.S} (hk : SemE K W tk fk) {i : Nat} : SemS K W (sDPut (tVar i) tk ta) (sPutK fa i fk) := fun B F0 σ H F ρ s R o e Dd q => by
  unfold sPutK at e
  split at e
  · rename_i x ρ1 s1 k1
    split at e
    · rename_i ds0 hx0
      split at e
      · rename_i y ρ2 s2 k2
        split at e
        · rename_i kvs k hx hk'
          split at e
          · rename_i hlt
            cases e
            refine ha B F0 σ H F ρ s R _ _ _ k1 _ fun v H1 F1 R1 sub1 d1 => ?_
            obtain ⟨a, g1, _⟩ := R1.sl.ow i _ hx0
            refine ⟨_, g1, hk B F0 σ H1 F1 _ _ R1 _ _ _ k2 _ fun w H2 F2 R2 sub2 d2 => ?_⟩
            obtain ⟨a', m1, _, _, _, hh⟩ := R2.sl.ow i _ hx
            rw [g1] at m1
            cases m1
            obtain ⟨ks, vs, ds, rfl, m5, hl, r⟩ := hh.d
            have ex := key_dv d2 hk'
            obtain ⟨ks', vs', ds', p1, p2, p3, p4⟩ := put_zip (k := k) (d1.mono sub2) r hl
            have hz : (ks.zip vs).length < sizeLine := by
              have e1 : (ks.zip vs).length = (ks.zip ds).length := by rw [List.length_zip, List.length_zip, r.length]
              rw [e1]
              exact lim_lt hlt
            refine ⟨a, _, rfl, by rw [ex]; exact DPut.k m5 hz, ?_⟩
            rw [p1]
            rw [p2] at q
            exact q _ _ F2 (R2.writeO hx g1 (.inr ⟨ks', vs', ds', rfl, rfl, p3, p4⟩)) (sub1.trans sub2)
          · cases e
        · cases e
      · cases e
    · cases e
  · cases e
/-! ### new dicts -/
theorem snd_dnew : SemND K W tDNewK (eC (.dct [])) := fun B F0 σ H F ρ s R d ρ' s' e Q q => by
  cases e
  intro p hp
  exact q p _ _ F (R.keep hp) (R.bh.none hp) (R.fh.none hp) (Sub.refl F) (.inr ⟨[], [], [], rfl, rfl, rfl, .nil⟩)
theorem Rel.rekeep {p : Addr} {o o' : HO} (R : Rel K W (upd B p o) F0 σ H F ρ s) (hB : B p = none) (hF : F p = none) : Rel K W (upd B p o') F0 σ (upd H p o') F ρ s := by
  have np : ∀ x, W.fp x → x ≠ p := fun x hx e => by
    have := R.ob x hx
    rw [e, upd_same] at this; cases this
  refine ⟨fun x u e => ?_, R.fh.updR hF, R.ff, fun x hx => ?_, R.of, fun x hx => ?_, W.stay R.st fun x hx => upd_ne (np x hx), R.len, ?_⟩
  · by_cases z : x = p
    · subst z; rw [upd_same] at e ⊢; exact e
    · rw [upd_ne z] at e ⊢
      exact R.bh x u (by rw [upd_ne z]; exact e)
  · by_cases z : x = p
    · subst z; exact absurd hF hx
    · rcases R.fb x hx with y | y
      · exact .inl y
      · rw [upd_ne z] at y ⊢; exact .inr y
  · have := R.ob x hx
    rw [upd_ne (np x hx)] at this ⊢
    exact this
  · refine R.sl.grow (Sub.refl F) fun i d a _ _ hBa hFa hH => ?_
    have ne : a ≠ p := fun e => by rw [e, upd_same] at hBa; cases hBa
    rw [upd_ne ne] at hBa
    exact ⟨by rw [upd_ne ne]; exact hBa, hFa, upd_ne ne⟩
theorem snd_d1 {tk tv : TE} {fk fv : E W.S} (hk : SemE K W tk fk) (hv : SemE K W tv fv) : SemND K W (tDisp [(tk, tv)]) (eD1 fk fv) := fun B F0 σ H F ρ s R d ρ' s' e Q q => by
  unfold eD1 at e
  split at e
  · rename_i x ρ1 s1 k1
    split at e
    · rename_i y ρ2 s2 k2
      split at e
      · rename_i k hk'
        cases e
        intro p hp
        have hB := R.bh.none hp
        have h0 : F0 p = none := R.ff.none (R.fh.none hp)
        refine hk (upd B p (.dK [])) F0 σ _ F ρ s (R.keep hp) _ _ _ k1 _ fun v H1 F1 R1 sub1 d1 => ?_
        refine hv (upd B p (.dK [])) F0 σ _ F1 _ _ R1 _ _ _ k2 _ fun w H2 F2 R2 sub2 d2 => ?_
        have hF2 : F2 p = none := hold_none R2 h0 (by rw [upd_same]; exact fun z => nomatch z)
        have ex := key_dv d1 hk'
        refine ⟨R2.bh _ _ upd_same, [(k, w)], by rw [ex]; rfl, by simp, ?_⟩
        exact q p _ _ F2 (R2.rekeep hB hF2) hB hF2 (sub1.trans sub2) (.inr ⟨[k], [w], [y], rfl, rfl, rfl, .cons d2 .nil⟩)
      · cases e
    · cases e
  · cases e
/-! ### sorted -/
theorem leI_tr : ∀ a b c : Int, leI a b = true → leI b c = true → leI a c = true := fun a b c h1 h2 => by
  unfold leI at *
  simp only [decide_eq_true_eq] at *
  omega
theorem leI_tot : ∀ a b : Int, (leI a b || leI b a) = true := fun a b => by
  unfold leI
  simp only [Bool.or_eq_true, decide_eq_true_eq]
  omega
theorem sorted_eq {ys ks : List Int} (hp : ys.Perm ks) (hs : ys.Pairwise (· ≤ ·)) : ys = ks.mergeSort leI := by
  have p2 : ys.Perm (ks.mergeSort leI) := hp.trans (List.mergeSort_perm ks leI).symm
  have s2 : (ks.mergeSort leI).Pairwise (· ≤ ·) := (List.pairwise_mergeSort leI_tr leI_tot ks).imp fun h => of_decide_eq_true h
  exact List.Perm.eq_of_pairwise (fun a b _ _ h1 h2 => Int.le_antisymm h1 h2) hs s2 p2
theorem keys_zip : ∀ {ks : List L2.Key} {ds : List D} {is : List Int}, ks.length = ds.length → keysI? (ks.zip ds) = some is → ks = is.map Sum.inl
  | [], [], is, _, h => by cases h; rfl
  | .inl i :: ks, d :: ds, is, hl, h => by
    simp only [List.zip_cons_cons, keysI?, Option.map_eq_some_iff] at h
    obtain ⟨js, h1, rfl⟩ := h
    rw [keys_zip (by simpa using hl) h1]
    rfl
  | .inr _ :: ks, d :: ds, is, hl, h => by cases h
  | [], _ :: _, _, hl, _ => by simp at hl
  | _ :: _, [], _, hl, _ => by simp at hl
theorem dvs_ints {F : Hp} : ∀ l : List Int, Dvs K F (l.map V.int) (l.map D.int)
  | [] => .nil
  | i :: r => .cons (.int i) (dvs_ints r)
def rSortK : List V → Hp → VK → Prop := fun xs H Q => ∃ (a : Addr) (kvs : List (Key × V)) (ks : List Int), xs = [.ref a] ∧ Rd H a (.dK kvs) ∧ kvs.map (·.1) = ks.map Sum.inl ∧ ks.length < 64 ∧
    ∀ (ys : List Int) (p : Addr), ys.Perm ks → ys.Pairwise (· ≤ ·) → H p = none → Q (.ref p) (upd H p (.lst (ys.map V.int)))
theorem bn_sortK : SemBN K W rSortK (on1 dSortK) := fun B F0 σ H F ρ s R xs ds d hx e Q q => by
  cases hx with
  | nil => cases e
  | cons h r =>
    cases r with
    | cons h2 r2 => cases e
    | nil =>
      rename_i v dx
      cases dx with
      | dct kvs =>
        obtain ⟨a, ks, vs, ds, rfl, rfl, h1, hl, r⟩ := dct_inv h
        simp only [on1, dSortK, Option.bind_eq_some_iff] at e
        obtain ⟨is, hi, e⟩ := e
        split at e
        · rename_i h64
          cases e
          have hl2 : ks.length = ds.length := by rw [hl, r.length]
          have hks := keys_zip hl2 hi
          refine ⟨a, ks.zip vs, is, rfl, .inl (R.fh _ _ h1), ?_, h64, fun ys p hp hs hn => ?_⟩
          · rw [List.map_fst_zip (by omega)]; exact hks
          · rw [sorted_eq hp hs]
            have hz : ((is.mergeSort leI).map V.int).length ≤ sizeLine := by
              rw [List.length_map, List.length_mergeSort]
              exact lim_size (by show _ ≤ 16777216; omega)
            exact lay_new R hz (dvs_ints _) q p hn
        · cases e
      | _ => cases e
theorem bn_sortI : SemBN K W (rSortedI K) (on1 dSortI) := fun B F0 σ H F ρ s R xs ds d hx e Q q => by
  cases hx with
  | nil => cases e
  | cons h r =>
    cases r with
    | cons h2 r2 => cases e
    | nil =>
      rename_i v dx
      cases dx with
      | lst es =>
        simp only [on1, dSortI, Option.bind_eq_some_iff, Option.some.injEq] at e
        obtain ⟨is, hi, rfl⟩ := e
        cases h with
        | lst h1 hz r =>
          have := r.ints _ hi
          subst this
          refine ⟨_, is, rfl, .inl (.inl (R.fh _ _ h1)), fun ys p hp hs hn => ?_⟩
          rw [sorted_eq hp hs]
          refine lay_new R ?_ (dvs_ints _) q p hn
          rw [List.length_map, List.length_mergeSort]
          simpa using hz
      | _ => cases e
/-! ### a star -/
theorem sa_star {t : TA} {r : As W.S} (ha : SemE K W ta fa) (hr : SemA K W t r) : SemA K W (StX.tStar K ta t) (aStar fa r) := fun B F0 σ H F ρ s R ds ρ' s' e Q q => by
  unfold aStar at e
  split at e
  · rename_i x ρ1 s1 k1
    split at e
    · rename_i xs hxs
      split at e
      · rename_i ys ρ2 s2 k2
        cases e
        refine ha B F0 σ H F ρ s R _ _ _ k1 _ fun v H1 F1 R1 sub1 d1 => ?_
        have key : ∃ p vs, v = V.ref p ∧ (SqT K H1 p vs ∨ SqL K H1 p vs) ∧ Dvs K F1 vs xs := by
          cases d1 with
          | tup h1 hz r => simp only [items?, Option.some.injEq] at hxs; subst hxs; exact ⟨_, _, rfl, .inl (R1.fh.seqT h1), r⟩
          | lst h1 hz r => simp only [items?, Option.some.injEq] at hxs; subst hxs; exact ⟨_, _, rfl, .inr (.inl (.inl (R1.fh _ _ h1))), r⟩
          | _ => cases hxs
        obtain ⟨p, vs, rfl, hq, r⟩ := key
        refine ⟨p, vs, rfl, hq, hr B F0 σ H1 F1 _ _ R1 _ _ _ k2 _ fun ws H2 F2 R2 sub2 d2 => ?_⟩
        exact q _ H2 F2 R2 (sub1.trans sub2) ((r.mono sub2).append d2)
      · cases e
    · cases e
  · cases e
/-! ### x[k] += e -/
def rGetL : V → V → Hp → VK → Prop := fun x y H Q => ∃ p xs i v, x = .ref p ∧ y = .int i ∧ H p = some (.lst xs) ∧ atI xs i = some v ∧ Q v H
theorem get_list {X : Cx} : PGet X rGetL := fun pins s σ H o i ov iv Q I ro ri h => by
  obtain ⟨p, xs, i, z, rfl, rfl, hq, he, q⟩ := h
  cases ro
  obtain ⟨t, rfl⟩ := ri
  obtain ⟨its, r, pl, hz⟩ := I.list (.inl (.inl hq) : SqL X.K H p xs)
  obtain ⟨j, h1, h2, h3, h4, h5⟩ := atI_get he
  obtain ⟨w, ew, rw'⟩ := r.get h2
  have hl := r.length
  have hn := line63
  have fin : EP X pins σ Q w s := ⟨z, H, I, rw', q⟩
  by_cases h0 : 0 ≤ i
  · have hj : i.toNat = j := by
      rw [seqIndex_of h0 h5] at h1
      exact Option.some.inj h1
    exact PySem.wpAny_getItem_list pl.isList h0 (by omega) (by rw [hj]; simpa using ew) fin
  · have hj : (i + (its.toArray.size : Int)).toNat = j := by
      rw [seqIndex_neg (by omega) h4] at h1
      rw [List.size_toArray, ← hl]
      exact Option.some.inj h1
    exact PySem.wpAny_getItem_list_neg pl.isList (by omega) (by rw [List.size_toArray] <;> omega) (by omega) (by rw [hj]; simpa using ew) fin
theorem ss_augIx {tk : TE} {fk : E W.S} (hk : SemE K W tk fk) (ha : SemE K W ta fa) {i : Nat} : SemS K W (tAugS (tVar i) tk ta rGetL (ipI fun i j => i + j) rSetL) (sAugIx dAddI i fk fa) := fun B F0 σ H F ρ s R o e Dd q => by
  unfold sAugIx at e
  split at e
  · rename_i ds00 hx00
    split at e
    · rename_i y ρ1 s1 k1
      split at e
      · rename_i ds hx
        split at e
        · rename_i x hxi
          split at e
          · rename_i z ρ2 s2 k2
            split at e
            · rename_i es w hx2 hw
              split at e
              · rename_i j hj
                cases e
                obtain ⟨a, g0, _, _, _, hh0⟩ := R.sl.ow i _ hx00
                refine ⟨_, g0, hk B F0 σ H F ρ s R _ _ _ k1 _ fun v1 H1 F1 R1 sub1 d1 => ?_⟩
                cases d1
                obtain ⟨a', g1, _, _, _, hh1⟩ := R1.sl.ow i _ hx
                rw [g0] at g1
                cases g1
                obtain ⟨vs, ds', e1, g5, g6, g7⟩ := hh1.l
                cases e1
                rw [← g7.length] at hxi
                cases hjj : ixD vs.length y with
                | none => rw [hjj] at hxi; cases hxi
                | some jj =>
                  rw [hjj] at hxi
                  obtain ⟨u, hu, hd⟩ := g7.get jj (show ds[jj]? = some x from hxi)
                  have hat : atI vs y = some u := by
                    show (ixN vs.length y).bind _ = _
                    rw [ixD_eq, hjj]; exact hu
                  refine ⟨a, vs, y, u, rfl, rfl, g5, hat, ha B F0 σ H1 F1 _ _ R1 _ _ _ k2 _ fun v2 H2 F2 R2 sub2 d2 => ?_⟩
                  cases hd <;> simp only [dAddI, reduceCtorEq] at hw
                  cases d2 <;> simp only [reduceCtorEq, Option.some.injEq] at hw
                  subst hw
                  obtain ⟨a', m1, _, _, _, hh2⟩ := R2.sl.ow i _ hx2
                  rw [g0] at m1
                  cases m1
                  obtain ⟨us, es', e2, m5, m6, m7⟩ := hh2.l
                  cases e2
                  rw [← m7.length] at hj
                  refine ⟨_, _, rfl, rfl, a, us, y, j, rfl, rfl, m5, hj, ?_⟩
                  exact q _ _ F2 (R2.write hx2 g0 (by rw [List.length_set]; exact m6) (m7.set (.int _) j)) (sub1.trans sub2)
              · cases e
            · cases e
          · cases e
        · cases e
      · cases e
    · cases e
  · cases e
end
/-! ### sum of a tuple -/
section
variable {P : Program} {w : World} {A : Around} {E : Value → Shared → Prop} {s : Shared}
theorem sum_rawT {t : Addr} {its : List Value} {ns : List Int} {Q : Value → Shared → Prop} (hh : A.handled = none) (hl : s.heap.IsTuple t its.toArray) (hi : IntsAre its ns)
    (h : ∀ h' tk t', (∀ b o, s.heap.get? b = some o → h'.get? b = some o) → Q (.int ns.sum t') { s with heap := h', toks := tk }) : wpAny (model P w) A (call (.builtin "sum") [.ref t]) Q E s := by
  obtain ⟨xs, e⟩ := hi.allInts.items
  have hn : numsOf (intItems xs).toList = ns := by rw [← e]; exact hi.numsOf
  rw [nums_intItems] at hn
  rw [e] at hl
  refine PySem.W.ktm_sumG hh hl fun h' tk t' hk => ?_
  have := h h' tk t' hk
  rw [preSum_eq, List.take_of_length_le (by simp), hn]; exact this
end
def rSumA (K : PySem.W.Frag) : List V → Hp → VK → Prop := fun vs H Q => ∃ (k : IK) (a : Addr) (ns : List Int), vs = [V.ref a] ∧ SqK K H k a (ns.map V.int) ∧ Q (.int ns.sum) H
theorem cr_sumA {X : Cx} (hc : X.calm = true) : CallR X (.builtin "sum") (rSumA X.K) := by
  intro pins s σ H vs us Q I r h
  obtain ⟨k, a, ns, rfl, hs, q⟩ := h
  obtain ⟨its, rv, hl, _⟩ := inv_sqK I hs
  rw [Vals.ref1 r]
  cases k
  · exact sum_raw (I.ok.hd hc) hl rv.ints fun h' tk t' hk => ⟨.int _, H, I.kept hk, ⟨_, rfl⟩, q⟩
  · exact sum_rawT (I.ok.hd hc) hl rv.ints fun h' tk t' hk => ⟨.int _, H, I.kept hk, ⟨_, rfl⟩, q⟩
theorem f1_sumA {K : PySem.W.Frag} : Flat1 K (rSumA K) dSumA := fun F x dx d hx e => by
  simp only [dSumA, Option.bind_eq_some_iff, Option.map_eq_some_iff] at e
  obtain ⟨ds, h1, is, h2, rfl⟩ := e
  obtain ⟨k, a, xs, rfl, hq, r, z⟩ := hx.itemsK h1
  have hxs := r.ints _ h2
  subst hxs
  exact ⟨_, fun _ => .int _, fun H Q sub q => ⟨k, a, is, rfl, sub.sqK hq, q⟩⟩
end Fw
/-! ## FwK2 -/
set_option Elab.async false
set_option linter.all false
set_option maxRecDepth 100000
set_option maxHeartbeats 1000000
/-! dict(pairs), len of a dict, count and index of lists, tuple(range(n)); own tuples that are known to be bare. -/
namespace Fw
open PySem PySem.Spec PyProof.Rows L2 FwZ
section
variable {K : PySem.W.Frag} {W : Wd} {B F0 H H' F F' : Hp} {σ σ' : L2.St} {ρ ρ' : Env} {s s' : W.S} {i : Nat} {ta tb te : TE} {fa fb fe : E W.S}
def SemBND (K : PySem.W.Frag) (W : Wd) (r : List V → Hp → VK → Prop) (op : List D → Option D) : Prop := ∀ B F0 σ H F ρ (s : W.S), Rel K W B F0 σ H F ρ s → ∀ xs ds d, Dvs K F xs ds → op ds = some d → ∀ Q : VK,
  (∀ p o H' F', Rel K W (upd B p o) F0 σ H' F' ρ s → B p = none → F' p = none → Sub F F' → OwO K F' o d → Q (.ref p) H') → r xs H Q
theorem snd_b1 {r : List V → Hp → VK → Prop} {op : D → Option D} (h : SemBND K W r (on1 op)) (ha : SemE K W ta fa) : SemND K W (tCB r (tCons ta tNil)) (e1 op fa) := fun B F0 σ H F ρ s R d ρ' s' e Q q => by
  unfold e1 at e
  split at e
  · rename_i x ρ1 s1 h1
    split at e
    · rename_i z hz
      cases e
      refine ha B F0 σ H F ρ s R _ _ _ h1 _ fun v H1 F1 R1 sub1 d1 => ?_
      exact h B F0 σ H1 F1 _ _ R1 [v] [x] _ (.cons d1 .nil) hz Q fun p o H' F' R' hB hF sub' ho => q p o H' F' R' hB hF (sub1.trans sub') ho
    · cases e
  · cases e
theorem pairs_dv {F : Hp} : ∀ {ds : List D} {vs : List V} {kvs : List (Key × D)}, Dvs K F vs ds → pairs? ds = some kvs →
    ∃ (ps : List Addr) (ks : List L2.Key) (ws : List V) (es : List D), vs = ps.map V.ref ∧ kvs = ks.zip es ∧ ks.length = ws.length ∧ Dvs K F ws es ∧ Paired (fun p (kv : L2.Key × V) => SqT K F p [kV kv.1, kv.2]) ps (ks.zip ws)
  | [], [], kvs, _, h => by
    cases h
    exact ⟨[], [], [], [], rfl, rfl, rfl, .nil, .nil⟩
  | d :: ds, v :: vs, kvs, .cons hd hr, h => by
    match d, hd, h with
    | .tup [k, e], hd, h =>
      simp only [pairs?, Option.bind_eq_some_iff, Option.map_eq_some_iff] at h
      obtain ⟨kk, hk, more, hm, rfl⟩ := h
      obtain ⟨ps, ks, ws, es, rfl, rfl, h3, h4, h5⟩ := pairs_dv hr hm
      generalize et : D.tup [k, e] = dt at hd
      cases hd with
      | tup h1 hz r =>
        cases et
        cases r with
        | cons r1 r2 =>
          cases r2 with
          | cons r3 r4 =>
            cases r4
            rename_i a u w
            have eu := key_dv r1 hk
            subst eu
            exact ⟨a :: ps, kk :: ks, w :: ws, e :: es, rfl, rfl, by simp [h3], .cons r3 h4, .cons h1 h5⟩
      | _ => cases et
  | [], _ :: _, _, h, _ => by cases h
  | _ :: _, [], _, h, _ => by cases h
theorem merge_zip {F : Hp} : ∀ {ks : List L2.Key} {ws : List V} {es : List D} {as : List L2.Key} {xs : List V} {ds : List D}, Dvs K F ws es → ks.length = ws.length → Dvs K F xs ds → as.length = xs.length →
    ∃ (as' : List L2.Key) (xs' : List V) (ds' : List D), mergeK (as.zip xs) (ks.zip ws) = as'.zip xs' ∧ (ks.zip es).foldl (fun acc kv => dput acc kv.1 kv.2) (as.zip ds) = as'.zip ds' ∧ as'.length = xs'.length ∧ Dvs K F xs' ds'
  | [], [], [], as, xs, ds, _, _, hx, hl => ⟨as, xs, ds, rfl, rfl, hl, hx⟩
  | k :: ks, w :: ws, e :: es, as, xs, ds, .cons h r, hkl, hx, hl => by
    obtain ⟨as1, xs1, ds1, p1, p2, p3, p4⟩ := put_zip (k := k) h hx hl
    obtain ⟨as2, xs2, ds2, q1, q2, q3, q4⟩ := merge_zip (ks := ks) r (by simpa using hkl) p4 p3
    refine ⟨as2, xs2, ds2, ?_, ?_, q3, q4⟩
    · show mergeK (putK (as.zip xs) k w) (ks.zip ws) = _
      rw [p1]; exact q1
    · show (ks.zip es).foldl (fun acc kv => dput acc kv.1 kv.2) (dput (as.zip ds) k e) = _
      rw [p2]; exact q2
  | [], _ :: _, _, _, _, _, _, h, _, _ => by simp at h
  | _ :: _, [], _, _, _, _, _, h, _, _ => by simp at h
def rDictP (K : PySem.W.Frag) : List V → Hp → VK → Prop := fun xs H Q => ∃ (a : Addr) (ps : List Addr) (kvs : List (Key × V)), xs = [.ref a] ∧ SqL K H a (ps.map V.ref) ∧ Paired (fun p kv => SqT K H p [kV kv.1, kv.2]) ps kvs ∧
    ∀ p, H p = none → Q (.ref p) (upd H p (.dK (mergeK [] kvs)))
theorem paired_mono {α β : Type} {R R' : α → β → Prop} (h : ∀ a b, R a b → R' a b) : ∀ {xs : List α} {ys : List β}, Paired R xs ys → Paired R' xs ys
  | _, _, .nil => .nil
  | _, _, .cons a r => .cons (h _ _ a) (paired_mono h r)
theorem bnd_dictP : SemBND K W (rDictP K) (on1 dDictP) := fun B F0 σ H F ρ s R xs ds d hx e Q q => by
  cases hx with
  | nil => cases e
  | cons h r =>
    cases r with
    | cons h2 r2 => cases e
    | nil =>
      rename_i v dx
      cases dx with
      | lst es =>
        simp only [on1, dDictP, Option.map_eq_some_iff] at e
        obtain ⟨kvs, hk, rfl⟩ := e
        cases h with
        | lst h1 hz r =>
          obtain ⟨ps, ks, ws, us, rfl, rfl, h3, h4, h5⟩ := pairs_dv r hk
          obtain ⟨as', xs', ds', q1, q2, q3, q4⟩ := merge_zip (as := []) (xs := []) (ds := []) h4 h3 .nil rfl
          refine ⟨_, ps, ks.zip ws, rfl, .inl (.inl (R.fh _ _ h1)), paired_mono (fun p kv hh => R.fh.seqT hh) h5, fun p hp => ?_⟩
          rw [show mergeK [] (ks.zip ws) = as'.zip xs' from q1]
          refine q p _ _ F (R.keep hp) (R.bh.none hp) (R.fh.none hp) (Sub.refl F) (.inr ⟨as', xs', ds', ?_, rfl, q3, q4⟩)
          exact congrArg D.dct q2
      | _ => cases e
def rLenD : List V → Hp → VK → Prop := fun xs H Q => ∃ a kvs, xs = [V.ref a] ∧ H a = some (.dK kvs) ∧ Q (.int kvs.length) H
theorem f1_lenK : Flat1 K rLenD dLenK := fun F x dx d hx e => by
  cases dx with
  | dct kvs =>
    obtain ⟨a, ks, vs, ds, rfl, rfl, h1, hl, r⟩ := dct_inv hx
    cases e
    refine ⟨_, fun _ => .int _, fun H Q sub q => ⟨a, _, rfl, sub _ _ h1, ?_⟩⟩
    have : (ks.zip vs).length = (ks.zip ds).length := by rw [List.length_zip, List.length_zip, r.length]
    rw [this]; exact q
  | _ => cases e
/-! ### methods of shared lists -/
/-- a method of a list, of flat outcome -/
structure FlatM (K : PySem.W.Frag) (r : V → List V → Hp → VK → Prop) (op : D → D → Option D) : Prop where
  lst : ∀ dx dy d, op dx dy = some d → ∃ es, dx = .lst es
  run : ∀ F x y dx dy d, Dv K F x dx → Dv K F y dy → op dx dy = some d → ∃ v, (∀ F, Dv K F v d) ∧ ∀ H Q, Sub F H → Q v H → r x [y] H Q
theorem se_bm {r : V → List V → Hp → VK → Prop} {op : D → D → Option D} (h : FlatM K r op) (ha : SemE K W ta fa) (hb : SemE K W tb fb) : SemE K W (tBM K "list" r ta (tCons tb tNil)) (e2 op fa fb) := fun B F0 σ H F ρ s R d ρ' s' e Q q => by
  unfold e2 at e
  split at e
  · rename_i x ρ1 s1 h1
    split at e
    · rename_i y ρ2 s2 h2
      split at e
      · rename_i z hz
        cases e
        obtain ⟨es, rfl⟩ := h.lst _ _ _ hz
        refine ha B F0 σ H F ρ s R _ _ _ h1 _ fun v H1 F1 R1 sub1 d1 => ?_
        have d1' := d1
        cases d1' with
        | lst g1 g2 g3 =>
          refine ⟨.inl ⟨rfl, _, .inl (.inl (R1.fh _ _ g1))⟩, hb B F0 σ H1 F1 _ _ R1 _ _ _ h2 _ fun w H2 F2 R2 sub2 d2 => ?_⟩
          obtain ⟨u, hu, k⟩ := h.run F2 _ w _ _ _ (d1.mono sub2) d2 hz
          exact k H2 Q R2.fh (q u H2 F2 R2 (sub1.trans sub2) (hu F2))
      · cases e
    · cases e
  · cases e
/-- the same, the list owned -/
theorem se_blm {r : V → List V → Hp → VK → Prop} {op : D → D → Option D} (h : FlatM K r op) (hb : SemE K W tb fb) {i : Nat} : SemE K W (tBM K "list" r (tVar i) (tCons tb tNil)) (eBLM op i fb) := fun B F0 σ H F ρ s R d ρ' s' e Q q => by
  unfold eBLM at e
  split at e
  · rename_i ds00 hx00
    unfold eBL at e
    split at e
    · rename_i x0 hx0
      split at e
      · rename_i y ρ1 s1 h1
        split at e
        · rename_i x hx
          split at e
          · rename_i z hz
            cases e
            obtain ⟨a, g0, _, _, _, hh⟩ := R.sl.ow i _ hx00
            obtain ⟨vs, ds', e1, g5, _⟩ := hh.l
            refine ⟨_, g0, .inl ⟨rfl, _, SqL.of g5⟩, hb B F0 σ H F ρ s R _ _ _ h1 _ fun w H1 F1 R1 sub1 d1 => ?_⟩
            obtain ⟨v, F', h1, sub2, h2, h3⟩ := R1.look hx
            rw [g0] at h1
            cases h1
            obtain ⟨u, hu, k⟩ := h.run F' _ w _ _ _ h3 (d1.mono sub2) hz
            exact k H1 Q h2 (q u H1 F1 R1 sub1 (hu F1))
          · cases e
        · cases e
      · cases e
    · cases e
  · cases e
theorem fm_count : FlatM K (rCntI K) dCount where
  lst := fun dx dy d e => by
    cases dx <;> simp only [dCount, reduceCtorEq] at e
    exact ⟨_, rfl⟩
  run := fun F x y dx dy d hx hy e => by
    cases dx <;> cases dy <;> simp only [dCount, reduceCtorEq, Option.map_eq_some_iff] at e
    obtain ⟨is, hi, rfl⟩ := e
    cases hx with
    | lst h1 hz r =>
      cases hy
      have := r.ints _ hi
      subst this
      exact ⟨_, fun _ => .int _, fun H Q sub q => ⟨_, is, _, rfl, rfl, .inl (.inl (sub _ _ h1)), q⟩⟩
def rIdxI (K : PySem.W.Frag) : V → List V → Hp → VK → Prop := fun x xs H Q => ∃ (p : Addr) (ns : List Int) (k : Int), x = .ref p ∧ xs = [.int k] ∧ SqL K H p (ns.map V.int) ∧ k ∈ ns ∧ Q (.int (ns.idxOf k : Nat)) H
theorem mt_lindex {X : Cx} : MtR X "list.index" (rIdxI X.K) := by
  intro pins s σ H x xs v us Q I rx rxs h
  obtain ⟨p, ns, k, rfl, rfl, hs, hk, q⟩ := h
  cases rx
  obtain ⟨u, rfl, ru⟩ := rxs.one
  obtain ⟨t, rfl⟩ := ru
  obtain ⟨its, rv, hl, hz⟩ := I.list hs
  rw [List.length_map] at hz
  exact PySem.SeqAt.list_index_ints hl.isList rv.ints hz hk ⟨.int _, H, I.tok _, ⟨_, rfl⟩, q⟩
theorem fm_index : FlatM K (rIdxI K) dIndex where
  lst := fun dx dy d e => by
    cases dx <;> simp only [dIndex, reduceCtorEq] at e
    exact ⟨_, rfl⟩
  run := fun F x y dx dy d hx hy e => by
    cases dx <;> cases dy <;> simp only [dIndex, reduceCtorEq, Option.bind_eq_some_iff] at e
    obtain ⟨is, hi, e⟩ := e
    split at e
    · rename_i hk
      cases e
      cases hx with
      | lst h1 hz r =>
        cases hy
        have := r.ints _ hi
        subst this
        exact ⟨_, fun _ => .int _, fun H Q sub q => ⟨_, is, _, rfl, rfl, .inl (.inl (sub _ _ h1)), hk, q⟩⟩
    · cases e
/-! ### tuple(range(n)) -/
theorem se_tupR1 (ha : SemE K W ta fa) : SemE K W (tTupRg (tRg1 ta)) (eTupR1 fa) := fun B F0 σ H F ρ s R d ρ' s' e Q q => by
  unfold eTupR1 at e
  split at e
  · rename_i j ρ1 s1 h1
    split at e
    · rename_i hj
      cases e
      refine ha B F0 σ H F ρ s R _ _ _ h1 _ fun v H1 F1 R1 sub1 d1 => ?_
      cases d1
      refine ⟨j, rfl, ⟨by omega, by omega, by omega, by omega, by omega⟩, ?_⟩
      have e0 : (j - 0).toNat = j.toNat := by omega
      unfold rgV
      rw [e0]
      exact lay_tup R1 (by rw [List.length_map, List.length_range]; exact lim_size (by show j.toNat ≤ 16777216; omega)) (rgV_dv j.toNat) fun v H' F' R' sub' d' => q v H' F' R' (sub1.trans sub') d'
    · cases e
  · cases e
/-! ### what is never reached -/
theorem ps_never {X : Cx} {st : Stmt} : PS X st (fun _ _ _ => False) := ⟨fun _ _ _ _ _ _ h => h.elim⟩
theorem ss_never : SemS K W (fun _ _ _ => False) sNever := fun B F0 σ H F ρ s R o e Dd q => by cases e
end
/-! ### tuples that are bare -/
section
variable {X : Cx} {es : List Expr} {o e : Expr} {to : TE} {t : TA} {name : Str} {apos cpos pos : Pos} {T id : String} {r : V → List V → Hp → VK → Prop}
/-- an own tuple's object, without a dict of its own -/
def Bare (H : Hp) (p : Addr) (xs : List V) : Prop := ∃ ob : Obj, H p = some (.frz ob (.tup xs)) ∧ ob.cls = .type "tuple" ∧ ob.dict = none
def tTupZ (t : TA) : TE := fun σ H Q => t σ H fun xs H1 => xs.length ≤ sizeLine ∧ ∀ p (ob : Obj), ob.cls = .type "tuple" → ob.dict = none → H1 p = none → Q (.ref p) (upd H1 p (.frz ob (.tup xs)))
theorem pe_tupZ {x1} (h : PA X es t) : PE X (.Tuple es x1 pos) (tTupZ t) := by
  refine ⟨fun pins s σ H Q I hq => ?_⟩
  refine wpAny_Tuple_spliced (thn (h.run pos pins s σ H _ I hq) fun us s1 ⟨xs, H1, I1, r, z, q⟩ => ⟨by rw [← r.length]; exact z, ?_⟩)
  have hf : H1 s1.heap.objs.size = none := I1.hok.fresh (Nat.le_refl _)
  refine ⟨.ref s1.heap.objs.size, upd H1 s1.heap.objs.size (.frz { cls := .type "tuple", data := .seq us.toArray } (.tup xs)), I1.laid (t' := s1.toks) (fun b u e => Heap.get?_push_of_some _ e) (Nat.le_refl _) ?_, rfl, q _ _ rfl rfl hf⟩
  exact ⟨Heap.get?_push_size _ rfl, z, us, r, ⟨_, Heap.get?_push_size _ rfl, rfl, _, rfl⟩⟩
/-- a method of a bare tuple -/
def tBMZ (r : V → List V → Hp → VK → Prop) (to : TE) (t : TA) : TE := fun σ H Q => to σ H fun x H1 => (∃ p xs, x = .ref p ∧ Bare H1 p xs) ∧ t σ H1 fun xs H2 => r x xs H2 Q
theorem pe_bmZ (pa : PlainAttrs "tuple") (slot : Slot "tuple" name id) (hty : typeOf (.builtin id) = pure (.type "method_descriptor")) (hm : MtR X id r) (ho : PE X o to) (ha : PA X (e :: es) t)
    (hbase : attributeBase o name X.env (eval o X.env) = eval o X.env := by rfl)
    (hfew : ((backTo cpos (starEach (e :: es) X.env)).all (fun x => !x.1) && (backToKw cpos (keywordEach [] X.env)).all (fun x => x.1.isSome)
      && decide ((e :: es).length + ([] : List Keyword).length + (if ([] : List Keyword).isEmpty then 0 else 1) < 30)) = true := by rfl)
    (hline : (apos.endLine == cpos.line) = true := by rfl) (hs : starEach (e :: es) X.env = (false, eval e X.env) :: starEach es X.env := by rfl) (hplain : (backTo cpos (starEach es X.env)).any (·.1) = false := by rfl) :
    PE X (.Call (.Attribute o name apos) (e :: es) [] cpos) (tBMZ r to t) := by
  refine ⟨fun pins s σ H Q I h => ?_⟩
  refine wpAny_Call_method_late hbase hfew hline rfl (thn (ho.run pins s σ H _ I h) fun v s1 ⟨x, H1, I1, r1, ty, q1⟩ => ?_)
  obtain ⟨p, xs, rfl, ob, hb, hc, hd⟩ := ty
  cases r1
  obtain ⟨g1, _⟩ := I1.hok p _ hb
  refine ⟨"tuple", id, pa, slot, hty, ⟨ob, g1, hc⟩, fun a e => by cases e; exact ⟨ob, g1, hd⟩, ?_⟩
  have hA := ha.run cpos pins s1 σ H1 _ I1 q1
  rw [hs] at hA ⊢
  refine Calls.callWith_builtin (by show (false || (backTo cpos (starEach es X.env)).any (·.1)) = false; rw [hplain] <;> rfl) (Calls.evalArgs_plain ?_)
  exact thn hA fun us s2 ⟨vs, H2, I2, r2, q2⟩ => hm pins s2 σ H2 (V.ref p) vs (Value.ref p) us Q I2 (show L2.RelV (V.ref p) (Value.ref p) from rfl) r2 q2
def rTIdx (K : PySem.W.Frag) : V → List V → Hp → VK → Prop := fun x xs H Q => ∃ (p : Addr) (ns : List Int) (k : Int), x = .ref p ∧ xs = [.int k] ∧ SqT K H p (ns.map V.int) ∧ k ∈ ns ∧ Q (.int (ns.idxOf k : Nat)) H
theorem mt_tindex : MtR X "tuple.index" (rTIdx X.K) := by
  intro pins s σ H x xs v us Q I rx rxs h
  obtain ⟨p, ns, k, rfl, rfl, hs, hk, q⟩ := h
  cases rx
  obtain ⟨u, rfl, ru⟩ := rxs.one
  obtain ⟨t, rfl⟩ := ru
  obtain ⟨its, rv, hl, hz⟩ := I.tuple hs
  exact PySem.SeqAt.tuple_index_ints hl rv.ints hk ⟨.int _, H, I.tok _, ⟨_, rfl⟩, q⟩
end
/-- a method's rule, the written part named -/
theorem mtk {X : Cx} {K : PySem.W.Frag} {id : String} (r : PySem.W.Frag → V → List V → Hp → VK → Prop) (hK : X.K = K) (h : MtR X id (r X.K)) : MtR X id (r K) := by
  subst hK
  exact h
end Fw
/-! ## Src -/
set_option Elab.async false
set_option linter.all false
set_option maxRecDepth 100000
set_option maxHeartbeats 4000000
namespace Fw
open PySem PySem.Spec PyProof.Rows L2
/-! ### the law's own source of numbers -/
structure Src where
  addr : Addr
  cells : List Int
  left : Int
  mixed : Int
  turn : Int
def srcO (c : Addr) (s : Src) : HO := .dK [(.inr "cells", .ref c), (.inr "left", .int s.left), (.inr "mixed", .int s.mixed), (.inr "turn", .int s.turn)]
abbrev srcW (a c : Addr) : Wd where
  S := Src
  fp := fun x => x = a ∨ x = c
  so := fun s H => a ≠ c ∧ s.addr = a ∧ s.cells.length ≤ 1000 ∧ (0 ≤ s.mixed ∧ s.mixed < 2147483648) ∧ H a = some (srcO c s) ∧ H c = some (.lst (s.cells.map V.int))
  alive := fun {s H x} h hx => by
    obtain ⟨_, _, _, _, h1, h2⟩ := h
    rcases hx with e | e
    · rw [e, h1]; exact fun z => nomatch z
    · rw [e, h2]; exact fun z => nomatch z
  stay := fun {s H H'} h k => by
    obtain ⟨h0, h1, h2, h3, h4, h5⟩ := h
    exact ⟨h0, h1, h2, h3, (k a (.inl rfl)).trans h4, (k c (.inr rfl)).trans h5⟩
/-- more cells are taken while what is left is below 2 -/
def refill : List Int → Int → List Int × Int
  | [], l => ([], l)
  | x :: r, l => if l < 2 then refill r x else (x :: r, l)
/-- a number drawn -/
def Src.fill (s : Src) : Src := { s with cells := (refill s.cells.reverse s.left).1.reverse, left := (refill s.cells.reverse s.left).2 }
def Src.mix1 (s : Src) : Int := (s.mixed + (s.turn + 1) * 104729) % 998244353
def Src.mix2 (s : Src) : Int := (s.mix1 * s.mix1 + (s.turn + 1) * 17) % 2147483647
def Src.pre (s : Src) (m : Int) : Src := if 1 < m then s.fill else s
def Src.draw0 (s : Src) (m : Int) : Int × Src :=
  if m < 2 ∨ 1 < s.left then (s.left % max 1 m, { s with left := s.left / max 1 m })
  else (s.mix2 / 16 % m, { s with turn := s.turn + 1, mixed := s.mix2 })
def Src.draw (s : Src) (m : Int) : Int × Src := (s.pre m).draw0 m
theorem Src.draw_lt (s : Src) (m : Int) : 0 ≤ (s.draw m).1 ∧ (s.draw m).1 < max 1 m := by
  unfold Src.draw Src.draw0
  split
  · exact ⟨Int.emod_nonneg _ (by omega), Int.emod_lt_of_pos _ (by omega)⟩
  · rename_i h
    have h2 : 2 ≤ m := by omega
    have := Int.emod_lt_of_pos ((s.pre m).mix2 / 16) (show 0 < m by omega)
    exact ⟨Int.emod_nonneg _ (by omega), by show _ % m < _; omega⟩
def dPick : List D → Src → Option (D × Src)
  | [.obj a, .int m], s => if a = s.addr ∧ m.natAbs < 2 ^ 62 then some (.int (s.draw m).1, (s.draw m).2) else none
  | _, _ => none
theorem dPick_some {ds : List D} {s s' : Src} {d : D} (e : dPick ds s = some (d, s')) : ∃ m, ds = [.obj s.addr, .int m] ∧ m.natAbs < 2 ^ 62 ∧ d = .int (s.draw m).1 ∧ s' = (s.draw m).2 := by
  unfold dPick at e
  split at e
  · split at e
    · rename_i h
      obtain ⟨h1, h2⟩ := h
      cases e
      exact ⟨_, by rw [h1], h2, rfl, rfl⟩
    · cases e
  · cases e
theorem Rel.srcUpd {K : PySem.W.Frag} {a c : Addr} {B F0 H H' F : Hp} {s s' : Src} (R : Rel K (srcW a c) B F0 [] H F [] s) (h : ∀ x, x ≠ a → x ≠ c → H' x = H x) (st : (srcW a c).so s' H') : Rel K (srcW a c) B F0 [] H' F [] s' := by
  have nf : ∀ x o, B x = some o → x ≠ a ∧ x ≠ c := fun x o e => by
    refine ⟨fun z => ?_, fun z => ?_⟩
    · have := R.ob x (.inl z); rw [this] at e; cases e
    · have := R.ob x (.inr z); rw [this] at e; cases e
  have ng : ∀ x o, F x = some o → x ≠ a ∧ x ≠ c := fun x o e => by
    refine ⟨fun z => ?_, fun z => ?_⟩
    · have := R.of x (.inl z); rw [this] at e; cases e
    · have := R.of x (.inr z); rw [this] at e; cases e
  exact ⟨fun x o e => by rw [h x (nf x o e).1 (nf x o e).2]; exact R.bh x o e, fun x o e => by rw [h x (ng x o e).1 (ng x o e).2]; exact R.fh x o e, R.ff, R.fb, R.of, R.ob, st, rfl,
    fun i d e => by simp at e, fun i d e => by simp at e, fun i j d e a h => by simp at h⟩
theorem refill_stop {l : List Int} {x : Int} (h : 2 ≤ x ∨ l = []) : refill l x = (l, x) := by
  cases l with
  | nil => rfl
  | cons y r =>
    rcases h with h | h
    · unfold refill; rw [if_neg (by omega)]
    · cases h
theorem refill_go {l : List Int} {x y : Int} (h : x < 2) : refill (y :: l) x = refill l y := by
  show (if x < 2 then refill l y else (y :: l, x)) = _
  rw [if_pos h]
theorem Src.pre_go {s : Src} {cs : List Int} {l y m : Int} (h : l < 2) : ({ s with cells := cs ++ [y], left := l } : Src).pre m = ({ s with cells := cs, left := y } : Src).pre m ∨ ¬ 1 < m := by
  by_cases hm : 1 < m
  · left
    unfold Src.pre Src.fill
    rw [if_pos hm, if_pos hm]
    simp only [List.reverse_append, List.reverse_cons, List.reverse_nil, List.nil_append, List.singleton_append]
    rw [refill_go h]
  · exact .inr hm
theorem Src.pre_stop {s : Src} {m : Int} (h : ¬ 1 < m ∨ 2 ≤ s.left ∨ s.cells = []) : s.pre m = s := by
  unfold Src.pre Src.fill
  by_cases hm : 1 < m
  · rw [if_pos hm]
    rw [refill_stop (by rcases h with h | h | h; exact absurd hm h; exact .inl h; exact .inr (by rw [h]; rfl))]
    simp
  · rw [if_neg hm]
theorem max_if (m : Int) : (if m > 1 then m else 1) = max 1 m := by
  split <;> omega
theorem refill_len : ∀ (l : List Int) (x : Int), (refill l x).1.length ≤ l.length
  | [], _ => Nat.le_refl _
  | y :: r, x => by
    unfold refill
    split
    · exact Nat.le_trans (refill_len r y) (Nat.le_succ _)
    · exact Nat.le_refl _
/-! the dict's pairs -/
section
variable {c : Addr} {s : Src} {x : Int}
abbrev srcL (c : Addr) (l m t : Int) : List (L2.Key × V) := [(.inr "cells", .ref c), (.inr "left", .int l), (.inr "mixed", .int m), (.inr "turn", .int t)]
theorem gCells {l m t : Int} : valV (srcL c l m t) (.inr "cells" : L2.Key) = some (.ref c) := rfl
theorem gLeft {l m t : Int} : valV (srcL c l m t) (.inr "left" : L2.Key) = some (.int l) := rfl
theorem gMixed {l m t : Int} : valV (srcL c l m t) (.inr "mixed" : L2.Key) = some (.int m) := rfl
theorem gTurn {l m t : Int} : valV (srcL c l m t) (.inr "turn" : L2.Key) = some (.int t) := rfl
theorem pLeft {l m t : Int} : putK (srcL c l m t) (.inr "left" : L2.Key) (.int x) = srcL c x m t := rfl
theorem pMixed {l m t : Int} : putK (srcL c l m t) (.inr "mixed" : L2.Key) (.int x) = srcL c l x t := rfl
theorem pTurn {l m t : Int} : putK (srcL c l m t) (.inr "turn" : L2.Key) (.int x) = srcL c l m x := rfl
theorem mSrc {l m t : Int} : mergeK [] (srcL c l m t) = srcL c l m t := rfl
end
end Fw
/-! ## Pick2 -/
set_option Elab.async false
set_option linter.all false
set_option maxRecDepth 100000
set_option maxHeartbeats 4000000
namespace Fw
open PySem PySem.Spec PyProof.Rows L2
def topS (i : Nat) : Stmt := PySem.Challenge.pw_heightnets_k22_stiff_papers_judged.main.body.getD i (.Pass ⟨0, 0, 0, 0⟩)
abbrev sSource : Stmt := topS 18
abbrev sPick : Stmt := topS 19
theorem sc_source : FnScope ["script", "mixed", "cell"] ["script"] (defScope sSource) := ⟨rfl, rfl, rfl, by decide +kernel, rfl, by decide +kernel, by decide +kernel⟩
theorem sc_pick : FnScope ["source", "many", "left", "mixed"] ["source", "many"] (defScope sPick) := ⟨rfl, rfl, rfl, by decide +kernel, rfl, by decide +kernel, by decide +kernel⟩
section
variable {P : Program} {w : World} {K : PySem.W.Frag} {mg : Str → Option Value} {base : Heap}
/-! ### _law_pick -/
def spPick (K : PySem.W.Frag) : Sp := fun vs H Q E => ∃ a c, spF K (srcW a c) dPick vs H Q E
theorem ifb {c : Bool} {A B : Prop} (h1 : c = true → A) (h2 : c = false → B) : if c = true then A else B := by
  cases c
  · rw [if_neg Bool.false_ne_true]; exact h2 rfl
  · rw [if_pos rfl]; exact h1 rfl
theorem ok_pick {f : Addr} {fd : FuncData} (F : Fun K "_law_pick" "_law_pick" sPick f fd) (mlen : mg "len" = none) (mmax : mg "max" = none) (mint : mg "int" = none) : FnOk P w K mg base CX0 1 f fd ["source", "many"] (spPick K) := by
  refine F.ok sc_pick (fun vs H Q E h => ?_) (fun cdv A outer s H vs Q E hr h => ?_)
  · obtain ⟨a, c, B, F0, F, s, ds, d, s', R, r, e, q⟩ := h
    rw [r.length]
    obtain ⟨m, rfl, _⟩ := dPick_some e
    rfl
  · obtain ⟨a, c, B, F0, F, s, ds, d, s', R, r, e, q⟩ := h
    have hu := hu_of hr
    obtain ⟨m, rfl, hm, rfl, rfl⟩ := dPick_some e
    cases r with
    | cons r1 r2 =>
    cases r2 with
    | cons r3 r4 =>
    cases r4
    cases r1
    cases r3
    obtain ⟨hac, hadr, hcl, hmx, hA, hC⟩ := R.st
    rw [← hadr] at hA hac
    refine ⟨_, pss_cons (ps_while PassesOwn.never (PW.pt (pw_and (pt_cmpR op_gt (pv 1) pe_int (nomark _)) (pw_and (pt_cmpR op_lt (pe_dget hu (pv 0) pe_str (fun _ _ => rfl)) pe_int (nomark _))
        (pw_and1 (pt_cmpR op_gt (pe_callB call_len_seq (by rfl) mlen PySem.boot_len (pa_cons (pe_dget hu (pv 0) pe_str (fun _ _ => rfl)) pa_nil)) pe_int (nomark _))))))
        (pss_one (ps_dput hu (pv 0) pe_str (pe_bm0 PySem.F.plainAttrs_list PySem.F.slot_list_pop PySem.F.type_list_pop mt_pop (pe_dget hu (pv 0) pe_str (fun _ _ => rfl))) rfl)))
      (pss_cons (ps_set (i := 2) sc_pick.nd rfl (Or.inl rfl) (pe_dget hu (pv 0) pe_str (fun _ _ => rfl)))
      (pss_cons (ps_if (PW.pt (pw_or (pt_cmpR op_lt (pv 1) pe_int (nomark _)) (pw_or1 (pt_cmpR op_gt (pv 2) pe_int (nomark _)))))
          (pss_cons (ps_dput hu (pv 0) pe_str (pe_op op_fdivW (pv 2) (pe_callB (call_max2 rfl) (by rfl) mmax (by decide +kernel) (pa_cons pe_int (pa_cons (pv 1) pa_nil)))) rfl)
          (pss_one (ps_ret (pe_op op_mod (pe_callTy call_int1 (by rfl) mint (by decide +kernel) (pa_cons (pv 2) pa_nil)) (pe_callB (call_max2 rfl) (by rfl) mmax (by decide +kernel) (pa_cons pe_int (pa_cons (pv 1) pa_nil)))))))
          pss_nil)
      (pss_cons (ps_dput hu (pv 0) pe_str (pe_op op_add (pe_dget hu (pv 0) pe_str (fun _ _ => rfl)) pe_int) rfl)
      (pss_cons (ps_set (i := 3) sc_pick.nd rfl (Or.inl rfl) (pe_op op_mod (pe_callTy call_int1 (by rfl) mint (by decide +kernel) (pa_cons (pe_op op_add (pe_dget hu (pv 0) pe_str (fun _ _ => rfl)) (pe_op op_mul (pe_dget hu (pv 0) pe_str (fun _ _ => rfl)) pe_int)) pa_nil)) pe_int))
      (pss_cons (ps_set (i := 3) sc_pick.nd rfl (Or.inl rfl) (pe_op op_mod (pe_callTy call_int1 (by rfl) mint (by decide +kernel) (pa_cons (pe_op op_add (pe_op op_mul (pv 3) (pv 3)) (pe_op op_mul (pe_dget hu (pv 0) pe_str (fun _ _ => rfl)) pe_int)) pa_nil)) pe_int))
      (pss_cons (ps_dput hu (pv 0) pe_str (pv 3) rfl)
      (pss_one (ps_ret (pe_op op_mod (pe_callTy call_int1 (by rfl) mint (by decide +kernel) (pa_cons (pe_op op_fdiv (pv 3) pe_int) pa_nil)) (pv 1)))))))))), ?_⟩
    -- while
    refine ⟨fun n σ H1 => ∃ cs l y3 y4, σ = [some (.ref s.addr), some (.int m), y3, y4] ∧ n = cs.length ∧ cs.length ≤ 1000 ∧ H1 s.addr = some (.dK (srcL c l s.mixed s.turn)) ∧ H1 c = some (.lst (cs.map V.int)) ∧ (∀ x, x ≠ s.addr → x ≠ c → H1 x = H x) ∧
      s.pre m = ({ s with cells := cs, left := l } : Src).pre m, ⟨_, s.cells, s.left, none, none, rfl, rfl, hcl, hA, hC, fun _ _ _ => rfl, rfl⟩, ?_⟩
    rintro n σ H1 ⟨cs, l, y3, y4, rfl, rfl, hcs, h1, h2, h3, h4⟩
    have get : ∀ (k : L2.Key) (v : V), valV (srcL c l s.mixed s.turn) k = some v → DGet H1 s.addr (kV k) (some v) := fun k v e => e ▸ DGet.k (k := k) h1
    have fin : (¬ 1 < m ∨ 2 ≤ l ∨ cs = []) → s.pre m = ({ s with cells := cs, left := l } : Src) := fun z => h4.trans (Src.pre_stop z)
    -- many > 1
    refine ⟨_, rfl, _, _, rfl, rfl, _, rfl, ?_⟩
    refine ifb (fun c1 => ?_) (fun c1 => ?_)
    · -- source['left'] < 2
      refine ⟨_, rfl, s.addr, _, rfl, get (.inr "left") _ gLeft, _, _, rfl, rfl, _, rfl, ?_⟩
      refine ifb (fun c2 => ?_) (fun c2 => ?_)
      · -- len(source['cells']) > 0
        refine ⟨_, rfl, s.addr, _, rfl, get (.inr "cells") _ gCells, c, _, rfl, .inl (.of h2), _, _, rfl, rfl, _, rfl, ?_⟩
        refine ifb (fun c3 => ?_) (fun c3 => ?_)
        · have hne : cs ≠ [] := fun z => by
            subst z
            exact absurd c3 (by decide)
          obtain ⟨ini, y, rfl⟩ : ∃ ini y, cs = ini ++ [y] := ⟨cs.dropLast, cs.getLast hne, (List.dropLast_concat_getLast hne).symm⟩
          refine ⟨fun σ' H' => σ' = [some (.ref s.addr), some (.int m), y3, y4] ∧ H' s.addr = some (.dK (srcL c y s.mixed s.turn)) ∧ H' c = some (.lst (ini.map V.int)) ∧ (∀ x, x ≠ s.addr → x ≠ c → H' x = H x), fun σ' H' hN => ?_, ?_⟩
          · obtain ⟨e1, e2, e3, e4⟩ := hN
            refine ⟨ini.length, by rw [List.length_append]; simp, ini, y, y3, y4, e1, rfl, by rw [List.length_append] at hcs; omega, e2, e3, e4, ?_⟩
            have c2' : l < 2 := of_decide_eq_true c2
            have c1' : 1 < m := of_decide_eq_true c1
            rcases Src.pre_go (s := s) (cs := ini) (l := l) (y := y) (m := m) c2' with z | z
            · exact h4.trans z
            · exact absurd c1' z
          · refine ⟨_, rfl, s.addr, _, rfl, get (.inr "cells") _ gCells, .inl ⟨rfl, _, .of h2⟩, c, _, V.int y, rfl, rfl, h2, by simp, ?_⟩
            have hA' : (upd H1 c (.lst ((ini ++ [y]).map V.int).dropLast)) s.addr = some (.dK (srcL c l s.mixed s.turn)) := by rw [upd_ne hac]; exact h1
            refine ⟨_, rfl, s.addr, _, rfl, DPut.k (k := .inr "left") hA' (by show 4 < sizeLine; decide), rfl, ?_, ?_, fun x x1 x2 => ?_⟩
            · rw [upd_same, pLeft]
            · rw [upd_ne (Ne.symm hac), upd_same, List.map_append, List.map_singleton, List.dropLast_concat]
            · rw [upd_ne x1, upd_ne x2]; exact h3 x x1 x2
        · have hs := fin (.inr (.inr (by cases cs with | nil => rfl | cons x r => exact absurd c3 (by simp))))
          refine ⟨_, rfl, s.addr, _, rfl, get (.inr "left") _ gLeft, ?_⟩
          refine ⟨_, rfl, _, _, rfl, rfl, _, rfl, ifb (fun d1 => ?_) (fun d1 => ⟨_, rfl, _, _, rfl, rfl, _, rfl, ifb (fun d2 => ?_) (fun d2 => ?_)⟩)⟩
          · have hb : m < 2 ∨ 1 < l := .inl (of_decide_eq_true d1)
            refine ⟨_, rfl, _, rfl, 1, m, rfl, _, _, rfl, rfl, ?_, _, rfl, s.addr, _, rfl, DPut.k (k := .inr "left") h1 (by show 4 < sizeLine; decide), ?_⟩
            · rw [max_if]; exact wide_div (b := 63) (by omega) (by omega) (by decide) (by decide)
            · refine ⟨_, rfl, .inl ⟨_, rfl, _, rfl, 1, m, rfl, _, _, rfl, rfl, by rw [max_if]; omega, ?_⟩⟩
              rw [max_if]
              have e : s.draw m = (l % max 1 m, { s with cells := cs, left := l / max 1 m }) := by
                unfold Src.draw Src.draw0
                rw [hs, if_pos hb]
              rw [e] at q
              refine q _ _ F (R.srcUpd (fun x x1 x2 => ?_) ⟨by rw [← hadr]; exact hac, hadr, hcs, hmx, ?_, ?_⟩) (Sub.refl F) (.int _)
              · rw [upd_ne (by rw [hadr]; exact x1)]; exact h3 x (by rw [hadr]; exact x1) x2
              · rw [← hadr]; exact upd_same
              · rw [upd_ne (Ne.symm hac)]; exact h2
          · have hb : m < 2 ∨ 1 < l := .inr (of_decide_eq_true d2)
            refine ⟨_, rfl, _, rfl, 1, m, rfl, _, _, rfl, rfl, ?_, _, rfl, s.addr, _, rfl, DPut.k (k := .inr "left") h1 (by show 4 < sizeLine; decide), ?_⟩
            · rw [max_if]; exact wide_div (b := 63) (by omega) (by omega) (by decide) (by decide)
            · refine ⟨_, rfl, .inl ⟨_, rfl, _, rfl, 1, m, rfl, _, _, rfl, rfl, by rw [max_if]; omega, ?_⟩⟩
              rw [max_if]
              have e : s.draw m = (l % max 1 m, { s with cells := cs, left := l / max 1 m }) := by
                unfold Src.draw Src.draw0
                rw [hs, if_pos hb]
              rw [e] at q
              refine q _ _ F (R.srcUpd (fun x x1 x2 => ?_) ⟨by rw [← hadr]; exact hac, hadr, hcs, hmx, ?_, ?_⟩) (Sub.refl F) (.int _)
              · rw [upd_ne (by rw [hadr]; exact x1)]; exact h3 x (by rw [hadr]; exact x1) x2
              · rw [← hadr]; exact upd_same
              · rw [upd_ne (Ne.symm hac)]; exact h2
          · have hb : ¬ (m < 2 ∨ 1 < l) := fun z => z.elim (of_decide_eq_false d1) (of_decide_eq_false d2)
            refine ⟨_, rfl, s.addr, _, rfl, get (.inr "turn") _ gTurn, _, _, rfl, rfl, _, rfl, s.addr, _, rfl, DPut.k (k := .inr "turn") h1 (by show 4 < sizeLine; decide), ?_⟩
            generalize hH2 : upd H1 s.addr (.dK (putK (srcL c l s.mixed s.turn) (.inr "turn") (.int (s.turn + 1)))) = H2
            have h5 : H2 s.addr = some (.dK (srcL c l s.mixed (s.turn + 1))) := by rw [← hH2]; exact upd_same
            have get2 : ∀ (k : L2.Key) (v : V), valV (srcL c l s.mixed (s.turn + 1)) k = some v → DGet H2 s.addr (kV k) (some v) := fun k v e => e ▸ DGet.k (k := k) h5
            refine ⟨_, rfl, s.addr, _, rfl, get2 (.inr "mixed") _ gMixed, _, rfl, s.addr, _, rfl, get2 (.inr "turn") _ gTurn, _, _, rfl, rfl, .inr ⟨by decide, by decide⟩, _, _, rfl, rfl, .inl ⟨_, rfl, _, _, rfl, rfl, (by show (0 : Int) < _; decide), ?_⟩⟩
            have r1 : 0 ≤ (s.mixed + (s.turn + 1) * 104729) % 998244353 := Int.emod_nonneg _ (by decide)
            have r2 : (s.mixed + (s.turn + 1) * 104729) % 998244353 < 998244353 := Int.emod_lt_of_pos _ (by decide)
            refine ⟨_, rfl, _, rfl, _, _, rfl, rfl, .inl ⟨by omega, by omega⟩, _, rfl, s.addr, _, rfl, get2 (.inr "turn") _ gTurn, _, _, rfl, rfl, .inr ⟨by decide, by decide⟩, _, _, rfl, rfl, .inl ⟨_, rfl, _, _, rfl, rfl, (by show (0 : Int) < _; decide), ?_⟩⟩
            refine ⟨_, rfl, _, rfl, s.addr, _, rfl, DPut.k (k := .inr "mixed") h5 (by show 4 < sizeLine; decide), ?_⟩
            refine ⟨_, rfl, _, _, rfl, rfl, ⟨by decide, by decide⟩, .inl ⟨_, rfl, _, rfl, _, _, rfl, rfl, by omega, ?_⟩⟩
            have e : s.draw m = (({ s with cells := cs, left := l } : Src).mix2 / 16 % m, { s with cells := cs, left := l, turn := s.turn + 1, mixed := ({ s with cells := cs, left := l } : Src).mix2 }) := by
              unfold Src.draw Src.draw0
              rw [hs, if_neg hb]
            rw [e] at q
            refine q _ _ F (R.srcUpd (fun x x1 x2 => ?_) ⟨by rw [← hadr]; exact hac, hadr, hcs, ⟨Int.emod_nonneg _ (by decide), Int.lt_trans (Int.emod_lt_of_pos _ (by decide)) (by decide)⟩, ?_, ?_⟩) (Sub.refl F) (.int _)
            · rw [upd_ne (by rw [hadr]; exact x1), ← hH2, upd_ne (by rw [hadr]; exact x1)]; exact h3 x (by rw [hadr]; exact x1) x2
            · rw [← hadr]; exact upd_same
            · rw [upd_ne (Ne.symm hac), ← hH2, upd_ne (Ne.symm hac)]; exact h2
      · have hs := fin (.inr (.inl (by have := of_decide_eq_false c2; omega)))
        refine ⟨_, rfl, s.addr, _, rfl, get (.inr "left") _ gLeft, ?_⟩
        refine ⟨_, rfl, _, _, rfl, rfl, _, rfl, ifb (fun d1 => ?_) (fun d1 => ⟨_, rfl, _, _, rfl, rfl, _, rfl, ifb (fun d2 => ?_) (fun d2 => ?_)⟩)⟩
        · have hb : m < 2 ∨ 1 < l := .inl (of_decide_eq_true d1)
          refine ⟨_, rfl, _, rfl, 1, m, rfl, _, _, rfl, rfl, ?_, _, rfl, s.addr, _, rfl, DPut.k (k := .inr "left") h1 (by show 4 < sizeLine; decide), ?_⟩
          · rw [max_if]; exact wide_div (b := 63) (by omega) (by omega) (by decide) (by decide)
          · refine ⟨_, rfl, .inl ⟨_, rfl, _, rfl, 1, m, rfl, _, _, rfl, rfl, by rw [max_if]; omega, ?_⟩⟩
            rw [max_if]
            have e : s.draw m = (l % max 1 m, { s with cells := cs, left := l / max 1 m }) := by
              unfold Src.draw Src.draw0
              rw [hs, if_pos hb]
            rw [e] at q
            refine q _ _ F (R.srcUpd (fun x x1 x2 => ?_) ⟨by rw [← hadr]; exact hac, hadr, hcs, hmx, ?_, ?_⟩) (Sub.refl F) (.int _)
            · rw [upd_ne (by rw [hadr]; exact x1)]; exact h3 x (by rw [hadr]; exact x1) x2
            · rw [← hadr]; exact upd_same
            · rw [upd_ne (Ne.symm hac)]; exact h2
        · have hb : m < 2 ∨ 1 < l := .inr (of_decide_eq_true d2)
          refine ⟨_, rfl, _, rfl, 1, m, rfl, _, _, rfl, rfl, ?_, _, rfl, s.addr, _, rfl, DPut.k (k := .inr "left") h1 (by show 4 < sizeLine; decide), ?_⟩
          · rw [max_if]; exact wide_div (b := 63) (by omega) (by omega) (by decide) (by decide)
          · refine ⟨_, rfl, .inl ⟨_, rfl, _, rfl, 1, m, rfl, _, _, rfl, rfl, by rw [max_if]; omega, ?_⟩⟩
            rw [max_if]
            have e : s.draw m = (l % max 1 m, { s with cells := cs, left := l / max 1 m }) := by
              unfold Src.draw Src.draw0
              rw [hs, if_pos hb]
            rw [e] at q
            refine q _ _ F (R.srcUpd (fun x x1 x2 => ?_) ⟨by rw [← hadr]; exact hac, hadr, hcs, hmx, ?_, ?_⟩) (Sub.refl F) (.int _)
            · rw [upd_ne (by rw [hadr]; exact x1)]; exact h3 x (by rw [hadr]; exact x1) x2
            · rw [← hadr]; exact upd_same
            · rw [upd_ne (Ne.symm hac)]; exact h2
        · have hb : ¬ (m < 2 ∨ 1 < l) := fun z => z.elim (of_decide_eq_false d1) (of_decide_eq_false d2)
          refine ⟨_, rfl, s.addr, _, rfl, get (.inr "turn") _ gTurn, _, _, rfl, rfl, _, rfl, s.addr, _, rfl, DPut.k (k := .inr "turn") h1 (by show 4 < sizeLine; decide), ?_⟩
          generalize hH2 : upd H1 s.addr (.dK (putK (srcL c l s.mixed s.turn) (.inr "turn") (.int (s.turn + 1)))) = H2
          have h5 : H2 s.addr = some (.dK (srcL c l s.mixed (s.turn + 1))) := by rw [← hH2]; exact upd_same
          have get2 : ∀ (k : L2.Key) (v : V), valV (srcL c l s.mixed (s.turn + 1)) k = some v → DGet H2 s.addr (kV k) (some v) := fun k v e => e ▸ DGet.k (k := k) h5
          refine ⟨_, rfl, s.addr, _, rfl, get2 (.inr "mixed") _ gMixed, _, rfl, s.addr, _, rfl, get2 (.inr "turn") _ gTurn, _, _, rfl, rfl, .inr ⟨by decide, by decide⟩, _, _, rfl, rfl, .inl ⟨_, rfl, _, _, rfl, rfl, (by show (0 : Int) < _; decide), ?_⟩⟩
          have r1 : 0 ≤ (s.mixed + (s.turn + 1) * 104729) % 998244353 := Int.emod_nonneg _ (by decide)
          have r2 : (s.mixed + (s.turn + 1) * 104729) % 998244353 < 998244353 := Int.emod_lt_of_pos _ (by decide)
          refine ⟨_, rfl, _, rfl, _, _, rfl, rfl, .inl ⟨by omega, by omega⟩, _, rfl, s.addr, _, rfl, get2 (.inr "turn") _ gTurn, _, _, rfl, rfl, .inr ⟨by decide, by decide⟩, _, _, rfl, rfl, .inl ⟨_, rfl, _, _, rfl, rfl, (by show (0 : Int) < _; decide), ?_⟩⟩
          refine ⟨_, rfl, _, rfl, s.addr, _, rfl, DPut.k (k := .inr "mixed") h5 (by show 4 < sizeLine; decide), ?_⟩
          refine ⟨_, rfl, _, _, rfl, rfl, ⟨by decide, by decide⟩, .inl ⟨_, rfl, _, rfl, _, _, rfl, rfl, by omega, ?_⟩⟩
          have e : s.draw m = (({ s with cells := cs, left := l } : Src).mix2 / 16 % m, { s with cells := cs, left := l, turn := s.turn + 1, mixed := ({ s with cells := cs, left := l } : Src).mix2 }) := by
            unfold Src.draw Src.draw0
            rw [hs, if_neg hb]
          rw [e] at q
          refine q _ _ F (R.srcUpd (fun x x1 x2 => ?_) ⟨by rw [← hadr]; exact hac, hadr, hcs, ⟨Int.emod_nonneg _ (by decide), Int.lt_trans (Int.emod_lt_of_pos _ (by decide)) (by decide)⟩, ?_, ?_⟩) (Sub.refl F) (.int _)
          · rw [upd_ne (by rw [hadr]; exact x1), ← hH2, upd_ne (by rw [hadr]; exact x1)]; exact h3 x (by rw [hadr]; exact x1) x2
          · rw [← hadr]; exact upd_same
          · rw [upd_ne (Ne.symm hac), ← hH2, upd_ne (Ne.symm hac)]; exact h2
    · have hs := fin (.inl (of_decide_eq_false c1))
      refine ⟨_, rfl, s.addr, _, rfl, get (.inr "left") _ gLeft, ?_⟩
      refine ⟨_, rfl, _, _, rfl, rfl, _, rfl, ifb (fun d1 => ?_) (fun d1 => ⟨_, rfl, _, _, rfl, rfl, _, rfl, ifb (fun d2 => ?_) (fun d2 => ?_)⟩)⟩
      · have hb : m < 2 ∨ 1 < l := .inl (of_decide_eq_true d1)
        refine ⟨_, rfl, _, rfl, 1, m, rfl, _, _, rfl, rfl, ?_, _, rfl, s.addr, _, rfl, DPut.k (k := .inr "left") h1 (by show 4 < sizeLine; decide), ?_⟩
        · rw [max_if]; exact wide_div (b := 63) (by omega) (by omega) (by decide) (by decide)
        · refine ⟨_, rfl, .inl ⟨_, rfl, _, rfl, 1, m, rfl, _, _, rfl, rfl, by rw [max_if]; omega, ?_⟩⟩
          rw [max_if]
          have e : s.draw m = (l % max 1 m, { s with cells := cs, left := l / max 1 m }) := by
            unfold Src.draw Src.draw0
            rw [hs, if_pos hb]
          rw [e] at q
          refine q _ _ F (R.srcUpd (fun x x1 x2 => ?_) ⟨by rw [← hadr]; exact hac, hadr, hcs, hmx, ?_, ?_⟩) (Sub.refl F) (.int _)
          · rw [upd_ne (by rw [hadr]; exact x1)]; exact h3 x (by rw [hadr]; exact x1) x2
          · rw [← hadr]; exact upd_same
          · rw [upd_ne (Ne.symm hac)]; exact h2
      · have hb : m < 2 ∨ 1 < l := .inr (of_decide_eq_true d2)
        refine ⟨_, rfl, _, rfl, 1, m, rfl, _, _, rfl, rfl, ?_, _, rfl, s.addr, _, rfl, DPut.k (k := .inr "left") h1 (by show 4 < sizeLine; decide), ?_⟩
        · rw [max_if]; exact wide_div (b := 63) (by omega) (by omega) (by decide) (by decide)
        · refine ⟨_, rfl, .inl ⟨_, rfl, _, rfl, 1, m, rfl, _, _, rfl, rfl, by rw [max_if]; omega, ?_⟩⟩
          rw [max_if]
          have e : s.draw m = (l % max 1 m, { s with cells := cs, left := l / max 1 m }) := by
            unfold Src.draw Src.draw0
            rw [hs, if_pos hb]
          rw [e] at q
          refine q _ _ F (R.srcUpd (fun x x1 x2 => ?_) ⟨by rw [← hadr]; exact hac, hadr, hcs, hmx, ?_, ?_⟩) (Sub.refl F) (.int _)
          · rw [upd_ne (by rw [hadr]; exact x1)]; exact h3 x (by rw [hadr]; exact x1) x2
          · rw [← hadr]; exact upd_same
          · rw [upd_ne (Ne.symm hac)]; exact h2
      · have hb : ¬ (m < 2 ∨ 1 < l) := fun z => z.elim (of_decide_eq_false d1) (of_decide_eq_false d2)
        refine ⟨_, rfl, s.addr, _, rfl, get (.inr "turn") _ gTurn, _, _, rfl, rfl, _, rfl, s.addr, _, rfl, DPut.k (k := .inr "turn") h1 (by show 4 < sizeLine; decide), ?_⟩
        generalize hH2 : upd H1 s.addr (.dK (putK (srcL c l s.mixed s.turn) (.inr "turn") (.int (s.turn + 1)))) = H2
        have h5 : H2 s.addr = some (.dK (srcL c l s.mixed (s.turn + 1))) := by rw [← hH2]; exact upd_same
        have get2 : ∀ (k : L2.Key) (v : V), valV (srcL c l s.mixed (s.turn + 1)) k = some v → DGet H2 s.addr (kV k) (some v) := fun k v e => e ▸ DGet.k (k := k) h5
        refine ⟨_, rfl, s.addr, _, rfl, get2 (.inr "mixed") _ gMixed, _, rfl, s.addr, _, rfl, get2 (.inr "turn") _ gTurn, _, _, rfl, rfl, .inr ⟨by decide, by decide⟩, _, _, rfl, rfl, .inl ⟨_, rfl, _, _, rfl, rfl, (by show (0 : Int) < _; decide), ?_⟩⟩
        have r1 : 0 ≤ (s.mixed + (s.turn + 1) * 104729) % 998244353 := Int.emod_nonneg _ (by decide)
        have r2 : (s.mixed + (s.turn + 1) * 104729) % 998244353 < 998244353 := Int.emod_lt_of_pos _ (by decide)
        refine ⟨_, rfl, _, rfl, _, _, rfl, rfl, .inl ⟨by omega, by omega⟩, _, rfl, s.addr, _, rfl, get2 (.inr "turn") _ gTurn, _, _, rfl, rfl, .inr ⟨by decide, by decide⟩, _, _, rfl, rfl, .inl ⟨_, rfl, _, _, rfl, rfl, (by show (0 : Int) < _; decide), ?_⟩⟩
        refine ⟨_, rfl, _, rfl, s.addr, _, rfl, DPut.k (k := .inr "mixed") h5 (by show 4 < sizeLine; decide), ?_⟩
        refine ⟨_, rfl, _, _, rfl, rfl, ⟨by decide, by decide⟩, .inl ⟨_, rfl, _, rfl, _, _, rfl, rfl, by omega, ?_⟩⟩
        have e : s.draw m = (({ s with cells := cs, left := l } : Src).mix2 / 16 % m, { s with cells := cs, left := l, turn := s.turn + 1, mixed := ({ s with cells := cs, left := l } : Src).mix2 }) := by
          unfold Src.draw Src.draw0
          rw [hs, if_neg hb]
        rw [e] at q
        refine q _ _ F (R.srcUpd (fun x x1 x2 => ?_) ⟨by rw [← hadr]; exact hac, hadr, hcs, ⟨Int.emod_nonneg _ (by decide), Int.lt_trans (Int.emod_lt_of_pos _ (by decide)) (by decide)⟩, ?_, ?_⟩) (Sub.refl F) (.int _)
        · rw [upd_ne (by rw [hadr]; exact x1), ← hH2, upd_ne (by rw [hadr]; exact x1)]; exact h3 x (by rw [hadr]; exact x1) x2
        · rw [← hadr]; exact upd_same
        · rw [upd_ne (Ne.symm hac), ← hH2, upd_ne (Ne.symm hac)]; exact h2
end
end Fw
/-! ## Source -/
set_option Elab.async false
set_option linter.all false
set_option maxRecDepth 100000
set_option maxHeartbeats 4000000
namespace Fw
open PySem PySem.Spec PyProof.Rows L2
section
variable {P : Program} {w : World} {K : PySem.W.Frag} {mg : Str → Option Value} {base : Heap}
/-! ### _law_source -/
def mixes (l : List Int) : Int := l.foldl (fun m x => (m * 69069 + x * 31 + 5) % 2147483629) 11
def absI (i : Int) : Int := if i < 0 then -i else i
def src0 (a : Addr) (l : List Int) : Src := { addr := a, cells := (l.map absI).reverse, left := 1, mixed := mixes l, turn := 0 }
def spSource (K : PySem.W.Frag) : Sp := fun vs H Q _ => ∃ (a : Addr) (ns : List Int), vs = [.ref a] ∧ SqL K H a (ns.map V.int) ∧ ns.length ≤ 63 ∧
  ∀ H' p c, Same H H' → H p = none → H c = none → p ≠ c → H' p = some (srcO c (src0 p ns)) → H' c = some (.lst ((src0 p ns).cells.map V.int)) → Q (.ref p) H'
theorem mixes_range : ∀ l : List Int, 0 ≤ mixes l ∧ mixes l < 2147483648 := fun l => by
  unfold mixes
  have : ∀ (l : List Int) (m : Int), 0 ≤ m ∧ m < 2147483648 → 0 ≤ l.foldl (fun m x => (m * 69069 + x * 31 + 5) % 2147483629) m ∧ l.foldl (fun m x => (m * 69069 + x * 31 + 5) % 2147483629) m < 2147483648 := by
    intro l
    induction l with
    | nil => intro m h; exact h
    | cons x r ih =>
      intro m h
      refine ih _ ⟨Int.emod_nonneg _ (by decide), ?_⟩
      exact Int.lt_trans (Int.emod_lt_of_pos (m * 69069 + x * 31 + 5) (show (0 : Int) < 2147483629 by decide)) (by decide)
  exact this l 11 (by decide)
theorem ok_source {f : Addr} {fd : FuncData} (F : Fun K "_law_source" "_law_source" sSource f fd) (mabs : mg "abs" = none) (mint : mg "int" = none) : FnOk P w K mg base CX0 1 f fd ["script"] (spSource K) := by
  refine F.ok sc_source (fun vs H Q E h => ?_) (fun cdv A outer s H vs Q E hr h => ?_)
  · obtain ⟨a, ns, rfl, _⟩ := h
    rfl
  · obtain ⟨a, ns, rfl, hS, hlen, k⟩ := h
    refine ⟨_, pss_cons (ps_set (i := 1) sc_source.nd rfl (Or.inl rfl) pe_int)
      (pss_cons (ps_for PassesOwn.never rfl (pi_list (pv 0)) (pg_name (i := 2) sc_source.nd rfl (Or.inl rfl))
        (pss_one (ps_set (i := 1) sc_source.nd rfl (Or.inl rfl) (pe_op op_mod (pe_callTy call_int1 (by rfl) mint (by decide +kernel) (pa_cons (pe_op op_add (pe_op op_add (pe_op op_mul (pv 1) pe_int) (pe_op op_mul (pv 2) pe_int)) pe_int) pa_nil)) pe_int))))
      (pss_one (ps_ret (pe_disp (pps_cons pe_str (pe_revL (pe_lc (own := [("cell", 2)]) (g := gName 2) (tt := L2.tYes) rfl sc_source.nd (pi_list (pv 0)) (blkOk_by (N := ["script", "mixed", "cell"]) (sc := defScope sSource) (by decide +kernel)) (fun _ _ _ _ _ => pg_name (i := 2) sc_source.nd rfl (Or.inl rfl)) (fun _ _ _ _ _ => pts_nil)
          (fun _ _ _ _ _ => pe_callB call_abs (by rfl) mabs (by decide +kernel) (pa_cons (pv 2) pa_nil))))
        (pps_cons pe_str pe_int (pps_cons pe_str (pv 1) (pps_cons pe_str pe_int pps_nil)))) (by rfl) (by rfl) (fun z => by cases z) (by decide))))), ?_⟩
    refine ⟨_, rfl, a, rfl, ⟨_, hS⟩, for_list (K := K) (a := a) (xs := ns.map V.int) (fun i σ H' => H' = H ∧ ∃ v, σ = [some (.ref a), some (.int (mixes (ns.take i))), v]) ⟨rfl, none, rfl⟩ (fun i σ H' _ ⟨e, _⟩ => e ▸ hS) ?_ ?_⟩
    · rintro i y σ H' hi ⟨rfl, v, rfl⟩
      obtain ⟨u, hu, rfl⟩ : ∃ u, ns[i]? = some u ∧ y = V.int u := by
        rw [List.getElem?_map] at hi
        cases e : ns[i]? with
        | none => rw [e] at hi; cases hi
        | some u => rw [e] at hi; exact ⟨u, rfl, (Option.some.inj hi).symm⟩
      refine ⟨_, rfl, _, _, rfl, rfl, .inr ⟨by decide, by decide⟩, _, rfl, _, _, rfl, rfl, .inr ⟨by decide, by decide⟩, _, _, rfl, rfl, _, _, rfl, rfl, .inl ⟨_, rfl, _, _, rfl, rfl, (by show (0 : Int) < _; decide), ?_⟩⟩
      refine ⟨rfl, some (.int u), ?_⟩
      have : mixes (ns.take (i + 1)) = (mixes (ns.take i) * 69069 + u * 31 + 5) % 2147483629 := by
        unfold mixes
        rw [List.take_add_one, hu, List.foldl_append]
        rfl
      rw [this]
      rfl
    · rintro σ H' ⟨rfl, v, rfl⟩
      rw [List.length_map, List.take_length]
      intro p hp
      -- the comprehension
      have hS1 : SqL K (upd H' p (.dK [])) a (ns.map V.int) := (Same.seq (fun b o e => by rw [upd_ne (ne_of_none e hp)]; exact e) hS)
      refine ⟨_, rfl, a, rfl, ⟨_, hS1⟩, fun D hD => ?_⟩
      have pD : p ≠ D := fun e => by rw [← e, upd_same] at hD; cases hD
      have hD0 : H' D = none := by rw [upd_ne pD.symm] at hD; exact hD
      refine lc_list (K := K) (a := a) (xs := ns.map V.int) (fun i H2 => H2 = upd (upd H' p (.dK [])) D (.lst ((ns.take i).map fun x => V.int (absI x)))) rfl (fun i H2 _ e => e ▸ (Same.seq (fun b o e => by rw [upd_ne (ne_of_none e hD)]; exact e) hS1)) ?_ ?_
      · rintro i y H2 hi rfl
        obtain ⟨u, hu, rfl⟩ : ∃ u, ns[i]? = some u ∧ y = V.int u := by
          rw [List.getElem?_map] at hi
          cases e : ns[i]? with
          | none => rw [e] at hi; cases hi
          | some u => rw [e] at hi; exact ⟨u, rfl, (Option.some.inj hi).symm⟩
        refine ⟨rfl, ?_⟩
        unfold L2.tYes
        dsimp only
        rw [if_pos rfl]
        refine ⟨_, rfl, _, rfl, _, upd_same, ?_, ?_⟩
        · rw [List.length_map, List.length_take]
          have := sizeLine_eq
          omega
        · rw [upd_upd, List.take_add_one, hu]
          show upd _ _ _ = upd _ _ (.lst (((ns.take i) ++ [u]).map fun x => V.int (absI x)))
          rw [List.map_append]
          rfl
      · rintro H2 rfl
        rw [List.length_map, List.take_length]
        -- [::-1]
        refine ⟨D, _, rfl, .of upd_same, fun c hc => ?_⟩
        have cD : c ≠ D := fun e => by rw [e, upd_same] at hc; cases hc
        rw [upd_ne cD] at hc
        have cp : c ≠ p := fun e => by rw [e, upd_same] at hc; cases hc
        rw [upd_ne cp] at hc
        refine ⟨_, rfl, ?_⟩
        refine ⟨by rw [upd_ne cp.symm, upd_ne pD, upd_same], srcL c 1 (mixes ns) 0, rfl, (by show 4 ≤ 15; decide), ?_⟩
        refine k _ p c (fun b o e => ?_) hp hc cp.symm ?_ ?_
        · rw [upd_ne (ne_of_none e hp), upd_ne (ne_of_none e hc), upd_ne (ne_of_none e hD0), upd_ne (ne_of_none e hp)]; exact e
        · rw [upd_same, mSrc]; rfl
        · rw [upd_ne cp, upd_same]
          show _ = some (HO.lst ((ns.map absI).reverse.map V.int))
          rw [List.map_reverse, List.map_map]
          rfl
end
end Fw
/-! ## Calls -/
set_option Elab.async false
set_option linter.all false
set_option maxRecDepth 100000
set_option maxHeartbeats 4000000
namespace Fw
open PySem PySem.Spec PyProof.Rows L2
/-- the promise of a def that knows the source -/
abbrev spS (K : PySem.W.Frag) (m : List D → Src → Option (D × Src)) : Sp := fun vs H Q E => ∃ a c, spF K (srcW a c) m vs H Q E
theorem se_callS {K : PySem.W.Frag} {a c : Addr} {f : List D → Src → Option (D × Src)} {X : XK} {tr : TA} {fr : As Src} (hr : SemA K (srcW a c) tr fr) : SemE K (srcW a c) (tCall (spS K f) [] X tr) (eCall f fr) := fun B F0 σ H F ρ s R d ρ' s' e Q q => by
  unfold eCall at e
  split at e
  · rename_i xs ρ1 s1 h1
    split at e
    · rename_i z s2 h2
      cases e
      refine hr B F0 σ H F ρ s R xs _ _ h1 _ fun vs H1 F1 R1 sub1 d1 => ?_
      obtain ⟨B1, Ri, back⟩ := R1.inside
      rw [List.append_nil]
      exact ⟨a, c, B1, F1, F1, s1, xs, d, s', Ri, d1, h2, fun v H' F' R' sub' d' => q v H' F' (back _ _ _ R') (sub1.trans sub') d'⟩
    · cases e
  · cases e
end Fw
namespace Fw
open PySem PySem.Spec PyProof.Rows L2
theorem spS_none {K : PySem.W.Frag} {vs : List V} {H : Hp} {Q : VK} {E : XK} (h : spS K (fun _ _ => none) vs H Q E) : False := by
  obtain ⟨a, c, B, F0, F, s, ds, d, s', R, r, e, q⟩ := h
  cases e
end Fw
/-! ## FL -/
set_option Elab.async false
set_option linter.all false
set_option maxRecDepth 100000
set_option maxHeartbeats 4000000
/-! from_least: called on a tuple just made. -/
namespace Fw
open PySem PySem.Spec PyProof.Rows L2 FwZ
def turnTo (ns : List Int) : List Int := ns.drop (ns.idxOf (minL ns)) ++ ns.take (ns.idxOf (minL ns))
def m_from_least : List D → Option D
  | [.tup xs] => (ints? xs).bind fun ns => if ns = [] then none else if 16777216 < ns.length then none else some (.tup ((turnTo ns).map .int))
  | _ => none
def spFL (K : PySem.W.Frag) : Sp := fun vs H Q E => spP K m_from_least vs H Q E ∧ ∃ p xs, vs = [.ref p] ∧ Bare H p xs
section
variable {K : PySem.W.Frag} {W : Wd}
theorem se_callFL {X : XK} {tr : TA} {fr : As W.S} (hr : SemA K W tr fr) : SemE K W (tCall (spFL K) [] X (tCons (tTupZ tr) tNil)) (eCallP m_from_least (aCons (eTup fr) aNil)) := fun B F0 σ H F ρ s R d ρ' s' e Q q => by
  have key : ∃ xs, fr ρ s = some (xs, ρ', s') ∧ xs.length ≤ LIM ∧ m_from_least [.tup xs] = some d := by
    unfold eCallP aCons eTup aNil at e
    cases h1 : fr ρ s with
    | none => rw [h1] at e; cases e
    | some t =>
      obtain ⟨xs, ρ1, s1⟩ := t
      rw [h1] at e
      dsimp only at e
      by_cases hl : xs.length ≤ LIM
      · rw [if_pos hl] at e
        dsimp only at e
        cases h2 : m_from_least [.tup xs] with
        | none => rw [h2] at e; cases e
        | some z => rw [h2] at e; cases e; exact ⟨xs, rfl, hl, h2⟩
      · rw [if_neg hl] at e
        cases e
  obtain ⟨xs, h1, hl, h2⟩ := key
  refine hr B F0 σ H F ρ s R xs _ _ h1 _ fun vs H1 F1 R1 sub1 d1 => ?_
  have hz : vs.length ≤ sizeLine := lim_size (by rw [d1.length]; exact hl)
  refine ⟨hz, fun p ob hc hd hp => ?_⟩
  have sub2 : Sub F1 (upd F1 p (.frz ob (.tup vs))) := Sub.upd (R1.fh.none hp)
  have R2 := R1.new (o := .frz ob (.tup vs)) hp
  obtain ⟨Ri, back⟩ := R2.inside0
  refine ⟨⟨_, _, _, (), [.tup xs], d, (), Ri, .cons (.tup (.inl (.inr ⟨ob, upd_same⟩)) hz (d1.mono sub2)) .nil, (by show Option.map _ (m_from_least [.tup xs]) = _; rw [h2]; rfl), fun v H' F' R' sub' d' => q v H' F' (back _ _ R') ((sub1.trans sub2).trans sub') d'⟩, p, vs, rfl, ob, upd_same, hc, hd⟩
end
section
variable {P : Program} {w : World} {K : PySem.W.Frag} {mg : Str → Option Value} {base : Heap}
abbrev s_from_least : Stmt := topS 12
theorem sc_from_least : FnScope ["ring", "k"] ["ring"] (defScope s_from_least) := ⟨rfl, rfl, rfl, by decide +kernel, rfl, by decide +kernel, by decide +kernel⟩
theorem fl_sem : SemS K W0 (tRet (tOp (rAddA K) (tSl (rSlLT K) (tVar 0) (tPart (tVar 1)) tNoPart) (tSl (rSlLT K) (tVar 0) tNoPart (tPart (tVar 1))))) (sRet (e2 dAdd (eCut (eV 0) (pSome (eV 1)) pNone) (eCut (eV 0) pNone (pSome (eV 1))))) :=
  ss_ret (se_2 r2_add (se_cut rs_cut se_v (so_some se_v) so_none) (se_cut rs_cut se_v so_none (so_some se_v)))
theorem idxOf_lt {ns : List Int} {m : Int} (h : m ∈ ns) : ns.idxOf m < ns.length := List.idxOf_lt_length_of_mem h
theorem fl_val {ns : List Int} (hne : ns ≠ []) (hl : ns.length ≤ 16777216) : (sRet (e2 dAdd (eCut (eV 0) (pSome (eV 1)) pNone) (eCut (eV 0) pNone (pSome (eV 1)))) : C Unit) [some (.sh (.tup (ns.map .int))), some (.sh (.int (ns.idxOf (minL ns) : Nat)))] () = some (.rt (.tup ((turnTo ns).map .int)), [some (.sh (.tup (ns.map .int))), some (.sh (.int (ns.idxOf (minL ns) : Nat)))], ()) := by
  have hp : 0 < ns.length := List.length_pos_iff.mpr hne
  have hk := idxOf_lt (minL_mem hp)
  generalize hj : ns.idxOf (minL ns) = j at hk
  have c1 : cutD (ns.map D.int) (some (j : Int)) none = (ns.drop j).map .int := by
    unfold cutD
    have e1 : sIxD (ns.map D.int).length 0 (some (j : Int)) = j := by
      show (if (0 : Int) ≤ (j : Int) then min (j : Int).toNat (ns.map D.int).length else ((j : Int) + ((ns.map D.int).length : Int)).toNat) = j
      rw [if_pos (by omega), Int.toNat_natCast, List.length_map]
      omega
    have e2 : sIxD (ns.map D.int).length (ns.map D.int).length none = ns.length := by
      unfold sIxD
      rw [List.length_map]
    rw [e1, e2, ← List.map_drop, List.take_of_length_le (by rw [List.length_map, List.length_drop]; omega)]
  have c2 : cutD (ns.map D.int) none (some (j : Int)) = (ns.take j).map .int := by
    unfold cutD
    have e1 : sIxD (ns.map D.int).length (ns.map D.int).length (some (j : Int)) = j := by
      show (if (0 : Int) ≤ (j : Int) then min (j : Int).toNat (ns.map D.int).length else ((j : Int) + ((ns.map D.int).length : Int)).toNat) = j
      rw [if_pos (by omega), Int.toNat_natCast, List.length_map]
      omega
    have e2 : sIxD (ns.map D.int).length 0 none = 0 := rfl
    rw [e1, e2, List.drop_zero, ← List.map_take]
    rfl
  have e : dAdd (.tup (cutD (ns.map D.int) (some (j : Int)) none)) (.tup (cutD (ns.map D.int) none (some (j : Int)))) = some (.tup ((turnTo ns).map .int)) := by
    rw [c1, c2]
    show (if ((ns.drop j).map D.int).length + ((ns.take j).map D.int).length ≤ LIM then some (D.tup ((ns.drop j).map D.int ++ (ns.take j).map D.int)) else none) = _
    rw [if_pos (by show _ ≤ 16777216; rw [List.length_map, List.length_map, List.length_drop, List.length_take]; omega), ← List.map_append]
    unfold turnTo
    rw [hj]
  unfold sRet e2 eCut pSome pNone eV
  simp only [List.getElem?_cons_zero, List.getElem?_cons_succ, dCut, e]
theorem ok_from_least {f : Addr} {fd : FuncData} (F : Fun K "from_least" "from_least" s_from_least f fd) (b_min : mg "min" = none) : FnG P w K mg base CX0 1 f fd ["ring"] (spFL K) := by
  refine fun_okG F sc_from_least (fun vs H Q E h => ?_) (fun cdv A outer s H vs Q E hr h => ?_)
  · obtain ⟨_, p, xs, rfl, _⟩ := h
    rfl
  · obtain ⟨⟨B, F0, Fh, s0, ds, d, s', R, r, e, q⟩, p, xs, rfl, hb⟩ := h
    have sc := sc_from_least
    refine ⟨_, pss_cons (ps_set (i := 1) sc.nd rfl (by first | exact Or.inl rfl | exact Or.inr rfl) (pe_bmZ PySem.F.plainAttrs_tuple PySem.F.slot_tuple_index PySem.F.type_tuple_index mt_tindex (pv 0) (pa_cons (pe_callB (callk (K := K) rMinA rfl (cr_minA rfl)) (by rfl) b_min (by decide +kernel) (pa_cons (pv 0) pa_nil)) pa_nil)))
      (pss_one (ps_ret (pe_op (opk (K := K) rAddA rfl op_addA) (pe_slice (slk (K := K) rSlLT rfl sl_any) (pv 0) (po_some (pv 1)) po_none) (pe_slice (slk (K := K) rSlLT rfl sl_any) (pv 0) po_none (po_some (pv 1)))))), ?_⟩
    cases r with
    | cons r1 r2 =>
      cases r2
      rename_i dx
      obtain ⟨dd, h1, h2⟩ := Option.map_eq_some_iff.mp e
      cases h2
      cases dx with
      | tup es =>
        simp only [m_from_least, Option.bind_eq_some_iff] at h1
        obtain ⟨ns, hi, h1⟩ := h1
        by_cases hne : ns = []
        · rw [if_pos hne] at h1; cases h1
        rw [if_neg hne] at h1
        by_cases hlg : 16777216 < ns.length
        · rw [if_pos hlg] at h1; cases h1
        rw [if_neg hlg] at h1
        cases h1
        have hp : 0 < ns.length := List.length_pos_iff.mpr hne
        have r1' := r1
        generalize et : D.tup es = dt at r1'
        cases r1' with
        | tup g1 g2 g3 =>
          cases et
          have hws := g3.ints _ hi
          subst hws
          have hS : SqT K H p (ns.map V.int) := R.fh.seqT g1
          refine ⟨.ref p, rfl, ⟨p, xs, rfl, hb⟩, .ref p, rfl, IK.t, p, ns, rfl, hS, hp, fun m hm hge => ?_⟩
          refine ⟨p, ns, m, rfl, rfl, hS, hm, ?_⟩
          have em : m = minL ns := Int.le_antisymm (hge _ (minL_mem hp)) (minL_le hm)
          subst em
          have es' : es = ns.map .int := by
            clear e q r1 g1 g2 g3 hS hlg hne hp hm hge
            induction es generalizing ns with
            | nil => cases hi; rfl
            | cons x r ih =>
              cases x with
              | int i =>
                simp only [ints?] at hi
                cases hh : ints? r with
                | none => rw [hh] at hi; cases hi
                | some is =>
                  rw [hh] at hi
                  cases hi
                  rw [ih _ hh]
                  rfl
              | _ => simp only [ints?] at hi; cases hi
          subst es'
          have hR0 : Rel K W0 B F0 [some (.ref p), some (.int (ns.idxOf (minL ns) : Nat))] H Fh [some (.sh (.tup (ns.map .int))), some (.sh (.int (ns.idxOf (minL ns) : Nat)))] () := by
            have hR : Rel K W0 B F0 (start ["ring", "k"] [V.ref p]) H Fh ([D.tup (ns.map .int)].map (fun d => some (Sl.sh d)) ++ List.replicate (["ring", "k"].length - [D.tup (ns.map D.int)].length) none) s0 :=
              ⟨R.bh, R.fh, R.ff, R.fb, R.of, R.ob, R.st, rfl, start_slots (N := ["ring", "k"]) (.cons r1 .nil)⟩
            exact hR.setSh (i := 1) (Dv.int (ns.idxOf (minL ns) : Nat))
          exact fl_sem B F0 _ H Fh _ () hR0 _ (fl_val hne (by omega)) _ fun v H' F' R' sub' d' => q v H' F' R' sub' d'
        | _ => cases et
      | _ => cases h1
end
end Fw
/-! ## Mir -/
set_option Elab.async false
set_option linter.all false
set_option maxRecDepth 100000
set_option maxHeartbeats 4000000
namespace Fw
open PySem PySem.Spec PyProof.Rows L2
noncomputable section
def m_tail_ofB : C Unit := (sRet (e2 dIx (e2 dIx (e2 dIx (eV 0) (eC (.int 1))) (eV 2)) (e2 dIx (eV 1) (eV 2))))
def m_tail_of : List D → Option D := runP 3 3 m_tail_ofB

def m_head_ofB : C Unit := (sRet (e2 dIx (e2 dIx (e2 dIx (eV 0) (eC (.int 1))) (eV 2)) (e2 dSub (eC (.int 1)) (e2 dIx (eV 1) (eV 2)))))
def m_head_of : List D → Option D := runP 3 3 m_head_ofB

def m_outs_ofB : C Unit := (sSeq (sNew (e2 dRep (eLst (aCons (eC (.int 0)) aNil)) (e2 dIx (eV 0) (eC (.int 0)))) 2)
    (sSeq (sFor (iR1 (e1 dLen (e2 dIx (eV 0) (eC (.int 1))))) (gN 3)
    (sAugIx dAddI 2 (eCallP m_tail_of (aCons (eV 0) (aCons (eV 1) (aCons (eV 3) aNil)))) (eC (.int 1))) [3])
    (sRet (e1 dTuple (eV 2)))))
def m_outs_of : List D → Option D := runP 2 4 m_outs_ofB

def m_roads_withinB : C Unit := (sRet (e1 dLen (eLc (iE (e2 dIx (eV 0) (eC (.int 1)))) (gTup (gCons (gN 2) (gCons (gN 3) gNil))) (Fw.tAnd (tE (e2 dIn (eV 2) (eV 1))) (tE (e2 dIn (eV 3) (eV 1)))) (eC (.int 1)) [2, 3])))
def m_roads_within : List D → Option D := runP 2 4 m_roads_withinB

def m_outs_atB : C Unit := (sRet (e1 dSum (eLc (iE (eV 1)) (gN 2) Fw.tYes (e2 dIx (eV 0) (eV 2)) [2])))
def m_outs_at : List D → Option D := runP 2 3 m_outs_atB

def m_ways_fromB : C Unit := (sSeq (sPar [3, 4] (qNew (eD1 (eV 2) (eTup aNil)) (qNew (eLst (aCons (eV 2) aNil)) qNil)))
    (sSeq (sWh 1000 (tE (eBL dNe 4 (eLst aNil)))
    (sSeq (sPar [5, 4] (qSh (eV 4) (qNew (eLst aNil) qNil)))
    (sFor (iR1 (e1 dLen (e2 dIx (eV 0) (eC (.int 1))))) (gN 6)
    (sSeq (sPar [7, 8] (qSh (eCallP m_tail_of (aCons (eV 0) (aCons (eV 1) (aCons (eV 6) aNil)))) (qSh (eCallP m_head_of (aCons (eV 0) (aCons (eV 1) (aCons (eV 6) aNil)))) qNil)))
    (sIf (Fw.tAnd (tE (e2 dIn (eV 7) (eV 5))) (tE (eBR dKNotIn (eV 8) 3)))
    (sSeq (sPutK (eTup (aStar (eBL dKGet 3 (eV 7)) (aCons (eV 6) aNil))) 3 (eV 8))
    (sDrop (eApp 4 (eV 8))))
    sNx)) [2, 6, 7, 8])) [2, 5, 6, 7, 8])
    (sRet (eV 3))))
def m_ways_from : List D → Option D := runP 3 9 m_ways_fromB

def m_led_fromB : C Unit := (sRet (e1 dTuple (e1 dSortK (eCallP m_ways_from (aCons (eV 0) (aCons (eV 1) (aCons (eV 2) aNil)))))))
def m_led_from : List D → Option D := runP 3 3 m_led_fromB

def m_is_crossing_lotB : C Unit := (sSeq (sIf (Fw.tNot (tE (e1 (dIsi "tuple") (eV 1))))
    (sRet (eC (.bl false)))
    sNx)
    (sSeq (sIf (Fw.tNot (tE (e1 dAll (eLc (iE (eV 1)) (gN 2) Fw.tYes (eAnd (e1 (dIsi "int") (eV 2)) (eAnd (e1 dNot (e1 (dIsi "bool") (eV 2))) (eChain dLe dLt (eC (.int 0)) (eV 2) (e2 dIx (eV 0) (eC (.int 0)))))) [2]))))
    (sRet (eC (.bl false)))
    sNx)
    (sRet (e1 dAll (eLc (iR1 (e2 dSub (e1 dLen (eV 1)) (eC (.int 1)))) (gN 3) Fw.tYes (e2 dLt (e2 dIx (eV 1) (eV 3)) (e2 dIx (eV 1) (e2 dAdd (eV 3) (eC (.int 1))))) [3])))))
def m_is_crossing_lot : List D → Option D := runP 2 4 m_is_crossing_lotB

def m_is_tightB : C Unit := (sRet (e2 dEq (eCallP m_roads_within (aCons (eV 0) (aCons (eV 2) aNil))) (eCallP m_outs_at (aCons (eV 1) (aCons (eV 2) aNil)))))
def m_is_tight : List D → Option D := runP 3 3 m_is_tightB

def m_ring_withB : C Unit := (sSeq (sAsg (eCallP m_ways_from (aCons (eV 0) (aCons (eV 1) (aCons (eCallP m_head_of (aCons (eV 0) (aCons (eV 1) (aCons (eV 2) aNil)))) aNil)))) (gN 3))
    (sSeq (sAsg (eCallP m_tail_of (aCons (eV 0) (aCons (eV 1) (aCons (eV 2) aNil)))) (gN 4))
    (sRet (eIf (tE (e2 dKIn (eV 4) (eV 3))) (eCallP m_from_least (aCons (eTup (aCons (eV 2) (aStar (e2 dKGet (eV 3) (eV 4)) aNil))) aNil)) (eC .non)))))
def m_ring_with : List D → Option D := runP 3 5 m_ring_withB

def m_is_turning_ringB : C Unit := (sSeq (sAsg (e1 dLen (e2 dIx (eV 0) (eC (.int 1)))) (gN 3))
    (sSeq (sIf (Fw.tOr (Fw.tNot (tE (e1 (dIsi "tuple") (eV 2)))) (tE (e2 dEq (eV 2) (eTup aNil))))
    (sRet (eC (.bl false)))
    sNx)
    (sSeq (sIf (Fw.tNot (tE (e1 dAll (eLc (iE (eV 2)) (gN 6) Fw.tYes (eAnd (e1 (dIsi "int") (eV 6)) (eAnd (e1 dNot (e1 (dIsi "bool") (eV 6))) (eChain dLe dLt (eC (.int 0)) (eV 6) (eV 3)))) [6]))))
    (sRet (eC (.bl false)))
    sNx)
    (sSeq (sAsg (eLc (iE (eV 2)) (gN 6) Fw.tYes (eCallP m_tail_of (aCons (eV 0) (aCons (eV 1) (aCons (eV 6) aNil)))) [6]) (gN 4))
    (sSeq (sAsg (eLc (iE (eV 2)) (gN 6) Fw.tYes (eCallP m_head_of (aCons (eV 0) (aCons (eV 1) (aCons (eV 6) aNil)))) [6]) (gN 5))
    (sSeq (sIf (Fw.tOr (tE (e2 dNe (e2 dIx (eV 2) (eC (.int 0))) (e1 dMinL (eV 2)))) (tE (e2 dNe (eLc (iE (eV 4)) (gN 7) (tE (e2 dGt (e2 dCount (eV 4) (eV 7)) (eC (.int 1)))) (eV 7) [7]) (eLst aNil))))
    (sRet (eC (.bl false)))
    sNx)
    (sRet (e2 dEq (eV 5) (e2 dAdd (eCut (eV 4) (pSome (eC (.int 1))) pNone) (eCut (eV 4) pNone (pSome (eC (.int 1)))))))))))))
def m_is_turning_ring : List D → Option D := runP 3 8 m_is_turning_ringB

def m_stiff_paperB : C Unit := (sSeq (sAsg (eCallP m_ring_with (aCons (eV 0) (aCons (eV 1) (aCons (eV 2) aNil)))) (gN 3))
    (sRet (eIf (tE (e1 dNotN (eV 3))) (eTup (aCons (eC (.str "ring")) (aCons (eV 3) aNil))) (eTup (aCons (eC (.str "lot")) (aCons (eCallP m_led_from (aCons (eV 0) (aCons (eV 1) (aCons (eCallP m_head_of (aCons (eV 0) (aCons (eV 1) (aCons (eV 2) aNil)))) aNil)))) aNil))))))
def m_stiff_paper : List D → Option D := runP 3 4 m_stiff_paperB

def m_judge_stiffB : C Unit := (sSeq (sIf (Fw.tOr (Fw.tNot (tE (e1 (dIsi "tuple") (eV 3)))) (Fw.tOr (tE (e2 dNe (e1 dLen (eV 3)) (eC (.int 2)))) (Fw.tNot (tE (e1 (dIsi "str") (e2 dIx (eV 3) (eC (.int 0))))))))
    (sRet (eTup (aCons (eC (.str "form")) aNil)))
    sNx)
    (sSeq (sIf (tE (e2 dEq (e2 dIx (eV 3) (eC (.int 0))) (eC (.str "ring"))))
    (sSeq (sIf (Fw.tNot (tE (eCallP m_is_turning_ring (aCons (eV 0) (aCons (eV 1) (aCons (e2 dIx (eV 3) (eC (.int 1))) aNil))))))
    (sRet (eTup (aCons (eC (.str "form")) aNil)))
    sNx)
    (sRet (eIf (tE (e2 dIn (eV 2) (e2 dIx (eV 3) (eC (.int 1))))) (eC .non) (eTup (aCons (eC (.str "road")) aNil)))))
    sNx)
    (sSeq (sIf (Fw.tOr (tE (e2 dNe (e2 dIx (eV 3) (eC (.int 0))) (eC (.str "lot")))) (Fw.tNot (tE (eCallP m_is_crossing_lot (aCons (eV 0) (aCons (e2 dIx (eV 3) (eC (.int 1))) aNil))))))
    (sRet (eTup (aCons (eC (.str "form")) aNil)))
    sNx)
    (sSeq (sIf (Fw.tNot (tE (eCallP m_is_tight (aCons (eV 0) (aCons (eCallP m_outs_of (aCons (eV 0) (aCons (eV 1) aNil))) (aCons (e2 dIx (eV 3) (eC (.int 1))) aNil))))))
    (sRet (eTup (aCons (eC (.str "tight")) aNil)))
    sNx)
    (sSeq (sPar [4, 5] (qSh (eCallP m_tail_of (aCons (eV 0) (aCons (eV 1) (aCons (eV 2) aNil)))) (qSh (eCallP m_head_of (aCons (eV 0) (aCons (eV 1) (aCons (eV 2) aNil)))) qNil)))
    (sRet (eIf (Fw.tAnd (tE (e2 dIn (eV 5) (e2 dIx (eV 3) (eC (.int 1))))) (tE (e2 dNotIn (eV 4) (e2 dIx (eV 3) (eC (.int 1)))))) (eC .non) (eTup (aCons (eC (.str "road")) aNil)))))))))
def m_judge_stiff : List D → Option D := runP 4 6 m_judge_stiffB

def m_law_ofB : C Src := (sRet (e2 dIx (eV 1) (eCall dPick (aCons (eV 0) (aCons (e1 dLen (eV 1)) aNil)))))
def m_law_of : List D → Src → Option (D × Src) := runC 2 2 m_law_ofB

def m_law_mixedB : C Src := (sSeq (sNew (e1 dList (eV 1)) 2)
    (sRet (eLc (iR1 (eB1 dLen 2)) (gN 3) Fw.tYes (ePopAt 2 (eCall dPick (aCons (eV 0) (aCons (eB1 dLen 2) aNil)))) [3])))
def m_law_mixed : List D → Src → Option (D × Src) := runC 2 4 m_law_mixedB

def m_law_frameB : C Src := (sSeq (sPar [3, 4] (qSh (e2 dAdd (eC (.int 1)) (eCall dPick (aCons (eV 0) (aCons (eV 1) aNil)))) (qNew (eLst aNil) qNil)))
    (sSeq (sFor (iR1 (e2 dAdd (eC (.int 1)) (eCall dPick (aCons (eV 0) (aCons (eV 2) aNil))))) (gN 5)
    (sSeq (sPar [6, 7] (qSh (eCall dPick (aCons (eV 0) (aCons (eV 3) aNil))) (qSh (eCall dPick (aCons (eV 0) (aCons (eV 3) aNil))) qNil)))
    (sSeq (sAsg (eIf (Fw.tAnd (tE (e2 dEq (eV 6) (eV 7))) (tE (e2 dGt (eCall dPick (aCons (eV 0) (aCons (eC (.int 3)) aNil))) (eC (.int 0))))) (e2 dMod (e1 dInt (e2 dAdd (e2 dAdd (eV 6) (eC (.int 1))) (eCall dPick (aCons (eV 0) (aCons (eV 3) aNil))))) (eV 3)) (eV 7)) (gN 7))
    (sDrop (eApp 4 (eTup (aCons (eV 6) (aCons (eV 7) aNil))))))) [1, 2, 5, 6, 7])
    (sRet (eTup (aCons (eV 3) (aCons (e1 dTuple (eV 4)) aNil))))))
def m_law_frame : List D → Src → Option (D × Src) := runC 3 8 m_law_frameB

def m_law_turningB : C Src := (sRet (e1 dTuple (eLc (iE (e2 dIx (eV 1) (eC (.int 1)))) (gN 2) Fw.tYes (eCall dPick (aCons (eV 0) (aCons (eC (.int 2)) aNil))) [2])))
def m_law_turning : List D → Src → Option (D × Src) := runC 2 3 m_law_turningB

def m_law_outsB : C Unit := (sSeq (sNew (e2 dRep (eLst (aCons (eC (.int 0)) aNil)) (e2 dIx (eV 0) (eC (.int 0)))) 2)
    (sSeq (sFor (iZip (e2 dIx (eV 0) (eC (.int 1))) (eV 1)) (gTup (gCons (gN 3) (gCons (gN 4) gNil)))
    (sSetIx (e2 dAdd (eBL dIx 2 (e2 dIx (eV 3) (eV 4))) (eC (.int 1))) 2 (e2 dIx (eV 3) (eV 4))) [0, 1, 3, 4])
    (sRet (e1 dTuple (eV 2)))))
def m_law_outs : List D → Option D := runP 2 5 m_law_outsB

def m_law_ledB : C Unit := (sSeq (sNew (eD1 (eV 2) (eC (.int 0))) 3)
    (sSeq (sFor (iR1 (e2 dIx (eV 0) (eC (.int 0)))) (gN 4)
    (sFor (iZip (e2 dIx (eV 0) (eC (.int 1))) (eV 1)) (gTup (gCons (gN 5) (gCons (gN 6) gNil)))
    (sIf (tE (eBR dKIn (e2 dIx (eV 5) (eV 6)) 3))
    (sPutK (eC (.int 0)) 3 (e2 dIx (eV 5) (e2 dSub (eC (.int 1)) (eV 6))))
    sNx) [2, 4, 5, 6]) [2, 4, 5, 6])
    (sRet (e1 dSortK (eV 3)))))
def m_law_led : List D → Option D := runP 3 7 m_law_ledB

def m_law_all_lotsB : C Unit := (sSeq (sAsg (eLst (aCons (eTup aNil) aNil)) (gN 1))
    (sSeq (sFor (iR1 (eV 0)) (gN 2)
    (sAsg (e2 dAdd (eV 1) (eLc (iE (eV 1)) (gN 3) Fw.tYes (e2 dAdd (eV 3) (eTup (aCons (eV 2) aNil))) [3])) (gN 1)) [0, 2])
    (sRet (eV 1))))
def m_law_all_lots : List D → Option D := runP 1 4 m_law_all_lotsB

def m_law_withinB : C Unit := (sRet (e1 dLen (eLc (iE (e2 dIx (eV 0) (eC (.int 1)))) (gTup (gCons (gN 2) (gCons (gN 3) gNil))) (Fw.tAnd (tE (e2 dIn (eV 2) (eV 1))) (tE (e2 dIn (eV 3) (eV 1)))) (eC (.int 1)) [2, 3])))
def m_law_within : List D → Option D := runP 2 4 m_law_withinB

def m_law_is_intB : C Unit := (sRet (eAnd (e1 (dIsi "int") (eV 0)) (e1 dNot (e1 (dIsi "bool") (eV 0)))))
def m_law_is_int : List D → Option D := runP 1 1 m_law_is_intB

def m_law_is_lotB : C Unit := (sSeq (sIf (Fw.tOr (Fw.tNot (tE (e1 (dIsi "tuple") (eV 0)))) (tE (e2 dNe (eLc (iE (eV 0)) (gN 2) (Fw.tOr (Fw.tNot (tE (eCallP m_law_is_int (aCons (eV 2) aNil)))) (Fw.tNot (tE (eChain dLe dLt (eC (.int 0)) (eV 2) (eV 1))))) (eV 2) [2]) (eLst aNil))))
    (sRet (eC (.bl false)))
    sNx)
    (sRet (e2 dEq (eLc (iR2 (eC (.int 1)) (e1 dLen (eV 0))) (gN 3) (tE (e2 dLe (e2 dIx (eV 0) (eV 3)) (e2 dIx (eV 0) (e2 dSub (eV 3) (eC (.int 1)))))) (eV 3) [3]) (eLst aNil))))
def m_law_is_lot : List D → Option D := runP 2 4 m_law_is_lotB

def m_law_ring_startsB : C Unit := (sSeq (sAsg (eLc (iE (eV 2)) (gN 5) Fw.tYes (e2 dIx (e2 dIx (e2 dIx (eV 0) (eC (.int 1))) (eV 5)) (e2 dIx (eV 1) (eV 5))) [5]) (gN 3))
    (sSeq (sAsg (eLc (iE (eV 2)) (gN 5) Fw.tYes (e2 dIx (e2 dIx (e2 dIx (eV 0) (eC (.int 1))) (eV 5)) (e2 dSub (eC (.int 1)) (e2 dIx (eV 1) (eV 5)))) [5]) (gN 4))
    (sRet (eIf (Fw.tAnd (tE (e2 dNe (eV 2) (eTup aNil))) (tE (e2 dEq (eV 4) (e2 dAdd (eCut (eV 3) (pSome (eC (.int 1))) pNone) (eCut (eV 3) pNone (pSome (eC (.int 1)))))))) (eV 3) (eC .non)))))
def m_law_ring_starts : List D → Option D := runP 3 6 m_law_ring_startsB

def m_law_is_turning_ringB : C Unit := (sSeq (sIf (Fw.tOr (Fw.tNot (tE (e1 (dIsi "tuple") (eV 2)))) (tE (e2 dNe (eLc (iE (eV 2)) (gN 4) (Fw.tNot (tE (eCallP m_law_is_int (aCons (eV 4) aNil)))) (eV 4) [4]) (eLst aNil))))
    (sRet (eC (.bl false)))
    sNx)
    (sSeq (sIf (Fw.tOr (tE (e2 dEq (eV 2) (eTup aNil))) (Fw.tOr (tE (e2 dLt (e1 dMinL (eV 2)) (eC (.int 0)))) (Fw.tOr (tE (e2 dGe (e1 dMaxL (eV 2)) (e1 dLen (e2 dIx (eV 0) (eC (.int 1)))))) (tE (e2 dNe (e1 dMinL (eV 2)) (e2 dIx (eV 2) (eC (.int 0))))))))
    (sRet (eC (.bl false)))
    sNx)
    (sSeq (sAsg (eCallP m_law_ring_starts (aCons (eV 0) (aCons (eV 1) (aCons (eV 2) aNil)))) (gN 3))
    (sRet (eAnd (e1 dNotN (eV 3)) (e2 dEq (e1 dLenK (e1 dDictP (eLc (iE (eV 3)) (gN 5) Fw.tYes (eTup (aCons (eV 5) (aCons (eC (.int 0)) aNil))) [5]))) (e1 dLen (eV 3))))))))
def m_law_is_turning_ring : List D → Option D := runP 3 6 m_law_is_turning_ringB

def m_law_faultB : C Unit := (sSeq (sIf (Fw.tOr (Fw.tNot (tE (e1 (dIsi "tuple") (eV 3)))) (Fw.tOr (tE (e2 dNe (e1 dLen (eV 3)) (eC (.int 2)))) (tE (e2 dNotIn (e1 dRepr (e2 dIx (eV 3) (eC (.int 0)))) (eTup (aCons (e1 dRepr (eC (.str "ring"))) (aCons (e1 dRepr (eC (.str "lot"))) aNil)))))))
    (sRet (eTup (aCons (eC (.str "form")) aNil)))
    sNx)
    (sSeq (sIf (tE (e2 dEq (e2 dIx (eV 3) (eC (.int 0))) (eC (.str "ring"))))
    (sSeq (sIf (Fw.tNot (tE (eCallP m_law_is_turning_ring (aCons (eV 0) (aCons (eV 1) (aCons (e2 dIx (eV 3) (eC (.int 1))) aNil))))))
    (sRet (eTup (aCons (eC (.str "form")) aNil)))
    sNx)
    (sRet (eIf (tE (e2 dNotIn (eV 2) (e2 dIx (eV 3) (eC (.int 1))))) (eTup (aCons (eC (.str "road")) aNil)) (eC .non))))
    sNx)
    (sSeq (sIf (Fw.tNot (tE (eCallP m_law_is_lot (aCons (e2 dIx (eV 3) (eC (.int 1))) (aCons (e2 dIx (eV 0) (eC (.int 0))) aNil)))))
    (sRet (eTup (aCons (eC (.str "form")) aNil)))
    sNx)
    (sSeq (sPar [4, 5, 6] (qSh (eCallP m_law_outs (aCons (eV 0) (aCons (eV 1) aNil))) (qSh (e2 dIx (e2 dIx (eV 0) (eC (.int 1))) (eV 2)) (qSh (e2 dIx (eV 1) (eV 2)) qNil))))
    (sSeq (sIf (tE (e2 dNe (eCallP m_law_within (aCons (eV 0) (aCons (e2 dIx (eV 3) (eC (.int 1))) aNil))) (e1 dSum (eLc (iE (e2 dIx (eV 3) (eC (.int 1)))) (gN 7) Fw.tYes (e2 dIx (eV 4) (eV 7)) [7]))))
    (sRet (eTup (aCons (eC (.str "tight")) aNil)))
    sNx)
    (sRet (eIf (Fw.tAnd (tE (e2 dIn (e2 dIx (eV 5) (e2 dSub (eC (.int 1)) (eV 6))) (e2 dIx (eV 3) (eC (.int 1))))) (tE (e2 dNotIn (e2 dIx (eV 5) (eV 6)) (e2 dIx (eV 3) (eC (.int 1)))))) (eC .non) (eTup (aCons (eC (.str "road")) aNil)))))))))
def m_law_fault : List D → Option D := runP 4 8 m_law_faultB

def m_law_valuesB : C Src := (sSeq (sPar [4, 5] (qSh (e2 dIx (eV 1) (eC (.int 0))) (qSh (e2 dIx (eV 3) (eC (.int 1))) qNil)))
    (sSeq (sPar [6, 7] (qSh (eCall m_law_of (aCons (eV 0) (aCons (eCallP m_law_all_lots (aCons (eV 4) aNil)) aNil))) (qSh (eCall dPick (aCons (eV 0) (aCons (e2 dAdd (e1 dLen (eV 5)) (eC (.int 1))) aNil))) qNil)))
    (sSeq (sAsg (eCall m_law_of (aCons (eV 0) (aCons (eLst (aCons (eC .non) (aCons (eC (.bl true)) (aCons (e1 dNeg (eC (.int 1))) (aCons (eV 4) (aCons (eC (.str "0")) (aCons (eTup (aCons (eC (.int 0)) aNil)) (aCons (eC (.int 0)) (aCons (e2 dPow (eC (.int 10)) (eC (.int 20))) (aCons (e1 dLen (e2 dIx (eV 1) (eC (.int 1)))) aNil)))))))))) aNil))) (gN 8))
    (sSeq (sAsg (e1 dTuple (eCallP m_law_led (aCons (eV 1) (aCons (eV 2) (aCons (eCall dPick (aCons (eV 0) (aCons (eV 4) aNil))) aNil))))) (gN 9))
    (sSeq (sAsg (eLst (aCons (eV 3) (aCons (eTup (aCons (e2 dIx (eV 3) (eC (.int 0))) (aCons (e2 dAdd (e2 dAdd (eCut (eV 5) pNone (pSome (eV 7))) (eTup (aCons (eV 8) aNil))) (eCut (eV 5) (pSome (eV 7)) pNone)) aNil))) (aCons (eTup (aCons (e2 dIx (eV 3) (eC (.int 0))) (aCons (e2 dAdd (e2 dAdd (eCut (eV 5) pNone (pSome (eV 7))) (eTup (aCons (eV 8) aNil))) (eCut (eV 5) (pSome (e2 dAdd (eV 7) (eC (.int 1)))) pNone)) aNil))) (aCons (e1 dList (eV 3)) aNil))))) (gN 10))
    (sSeq (sAsg (e2 dAdd (eV 10) (eLst (aCons (eTup (aCons (e2 dIx (eV 3) (eC (.int 0))) (aCons (e1 dRev (eV 5)) aNil))) (aCons (eTup (aCons (e2 dIx (eV 3) (eC (.int 0))) (aCons (eCut (eV 5) (pSome (eC (.int 1))) pNone) aNil))) (aCons (eTup (aCons (e2 dIx (eV 3) (eC (.int 0))) (aCons (e1 dList (eV 5)) aNil))) (aCons (eTup (aCons (e2 dIx (eV 3) (eC (.int 0))) (aCons (e2 dAdd (eCut (eV 5) (pSome (eC (.int 1))) pNone) (eCut (eV 5) pNone (pSome (eC (.int 1))))) aNil))) aNil)))))) (gN 10))
    (sSeq (sAsg (e2 dAdd (eV 10) (eLst (aCons (eTup (aCons (eC (.str "lot")) (aCons (eV 6) aNil))) (aCons (eTup (aCons (eC (.str "lot")) (aCons (eV 9) aNil))) (aCons (eTup (aCons (eC (.str "lot")) (aCons (eV 5) aNil))) (aCons (eTup (aCons (eC (.str "ring")) (aCons (eV 5) aNil))) (aCons (eTup (aCons (eC (.str "lot")) (aCons (eTup aNil) aNil))) (aCons (eTup (aCons (eC (.str "ring")) (aCons (eTup aNil) aNil))) aNil)))))))) (gN 10))
    (sSeq (sAsg (e2 dAdd (eV 10) (eLst (aCons (eTup (aCons (eV 5) (aCons (e2 dIx (eV 3) (eC (.int 0))) aNil))) (aCons (eTup (aCons (eC (.str "lot")) (aCons (eTupR1 (eV 4)) aNil))) (aCons (eTup (aCons (eC (.str "Lot")) (aCons (eV 5) aNil))) (aCons (e2 dAdd (eV 3) (eTup (aCons (eC (.int 0)) aNil))) (aCons (eCut (eV 3) pNone (pSome (eC (.int 1)))) aNil))))))) (gN 10))
    (sRet (e2 dAdd (eV 10) (eLst (aCons (eC .non) (aCons (eTup aNil) (aCons (eC (.int 0)) (aCons (eC (.str "ring")) (aCons (eC (.dct [])) aNil))))))))))))))))
def m_law_values : List D → Src → Option (D × Src) := runC 4 11 m_law_valuesB

def m_lawB : C Src := (sSeq (sFor (iR1 (eC (.int 4))) (gN 2)
    (sSeq (sAsg (eCall m_law_frame (aCons (eV 1) (aCons (e2 dIx (eLst (aCons (eC (.int 3)) (aCons (eC (.int 4)) (aCons (eC (.int 5)) (aCons (eC (.int 6)) aNil))))) (eV 2)) (aCons (e2 dIx (eLst (aCons (eC (.int 5)) (aCons (eC (.int 7)) (aCons (eC (.int 9)) (aCons (eC (.int 10)) aNil))))) (eV 2)) aNil)))) (gN 3))
    (sSeq (sPar [4, 5] (qSh (e1 dRepr (eV 3)) (qSh (eCall m_law_turning (aCons (eV 1) (aCons (eV 3) aNil))) qNil)))
    (sSeq (sFor (iE (eCut (eCall m_law_mixed (aCons (eV 1) (aCons (eListR1 (e1 dLen (e2 dIx (eV 3) (eC (.int 1))))) aNil))) pNone (pSome (eC (.int 4))))) (gN 6)
    (sSeq (sPar [7, 8] (qSh (eCallP m_stiff_paper (aCons (eV 3) (aCons (eV 5) (aCons (eV 6) aNil)))) (qSh (e2 dIx (e2 dIx (eV 3) (eC (.int 1))) (eV 6)) qNil)))
    (sSeq (sPar [9, 10] (qSh (e2 dIx (eV 8) (e2 dIx (eV 5) (eV 6))) (qSh (e2 dIx (eV 8) (e2 dSub (eC (.int 1)) (e2 dIx (eV 5) (eV 6)))) qNil)))
    (sSeq (sAsg (eIf (tE (e2 dIn (eV 9) (eCallP m_law_led (aCons (eV 3) (aCons (eV 5) (aCons (eV 10) aNil)))))) (eC (.str "ring")) (eC (.str "lot"))) (gN 11))
    (sSeq (sIf (Fw.tOr (tE (e2 dNe (e2 dIx (eV 7) (eC (.int 0))) (eV 11))) (tE (e1 dNotN (eCallP m_law_fault (aCons (eV 3) (aCons (eV 5) (aCons (eV 6) (aCons (eV 7) aNil))))))))
    (sRet (eC (.bl false)))
    sNx)
    (sFor (iE (eCall m_law_values (aCons (eV 1) (aCons (eV 3) (aCons (eV 5) (aCons (eV 7) aNil)))))) (gN 12)
    (sSeq (sPar [13, 14] (qSh (e1 dRepr (eV 12)) (qSh (eCallP m_law_fault (aCons (eV 3) (aCons (eV 5) (aCons (eV 6) (aCons (eV 12) aNil))))) qNil)))
    (sSeq (sIf (Fw.tOr (tE (e2 dNe (e1 dRepr (eCallP m_judge_stiff (aCons (eV 3) (aCons (eV 5) (aCons (eV 6) (aCons (eV 12) aNil)))))) (e1 dRepr (eV 14)))) (tE (e2 dNe (e1 dRepr (eV 12)) (eV 13))))
    (sRet (eC (.bl false)))
    sNx)
    (sIf (Fw.tAnd (tE (e1 dIsN (eV 14))) (tE (e2 dNe (e2 dIx (eV 12) (eC (.int 0))) (eV 11))))
    (sRet (eC (.bl false)))
    sNx))) [0, 2, 7, 8, 9, 10, 12, 13, 14]))))) [0, 2, 6, 7, 8, 9, 10, 11, 12, 13, 14])
    (sIf (tE (e2 dNe (e1 dRepr (eV 3)) (eV 4)))
    (sRet (eC (.bl false)))
    sNx)))) [0, 2, 3, 4, 5, 6, 7, 8, 9, 10, 11, 12, 13, 14])
    (sRet (e1 dIsN (eCallP m_judge_stiff (aCons (eTup (aCons (eC (.int 3)) (aCons (eTup (aCons (eTup (aCons (eC (.int 0)) (aCons (eC (.int 1)) aNil))) (aCons (eTup (aCons (eC (.int 1)) (aCons (eC (.int 2)) aNil))) (aCons (eTup (aCons (eC (.int 0)) (aCons (eC (.int 2)) aNil))) aNil)))) aNil))) (aCons (eTup (aCons (eC (.int 0)) (aCons (eC (.int 0)) (aCons (eC (.int 0)) aNil)))) (aCons (eC (.int 0)) (aCons (eTup (aCons (eC (.str "lot")) (aCons (eTup (aCons (eC (.int 1)) (aCons (eC (.int 2)) aNil))) aNil))) aNil))))))))
end
end Fw
/-! ## G2 -/
set_option linter.all false
set_option maxRecDepth 100000
set_option maxHeartbeats 1000000
/-! Draws. -/
namespace Fw
open PySem
theorem refill_addr (s : Src) (m : Int) : (s.draw m).2.addr = s.addr := by
  unfold Src.draw Src.draw0 Src.pre Src.fill
  split <;> split <;> rfl
theorem pick_ev {a : Addr} {m : Int} {s : Src} {Q : D × Src → Prop} (hs : s.addr = a) (hm : m.natAbs < 2 ^ 62) (q : ∀ v s', s'.addr = a → 0 ≤ v → v < max 1 m → Q (.int v, s')) : wD (dPick [.obj a, .int m] s) Q := by
  show wD (if a = s.addr ∧ m.natAbs < 2 ^ 62 then some (D.int (s.draw m).1, (s.draw m).2) else none) Q
  rw [if_pos ⟨hs.symm, hm⟩]
  obtain ⟨h1, h2⟩ := s.draw_lt m
  exact q _ _ ((refill_addr s m).trans hs) h1 h2
theorem pick_n {a : Addr} {m : Nat} {s : Src} {Q : D × Src → Prop} (hs : s.addr = a) (h1 : 1 ≤ m) (hm : m ≤ 1000000000) (q : ∀ (k : Nat) s', s'.addr = a → k < m → Q (.int k, s')) : wD (dPick [.obj a, .int m] s) Q := by
  refine pick_ev hs (by omega) fun v s' hs' h0 hv => ?_
  have : v = ((v.toNat : Nat) : Int) := by omega
  rw [this]
  exact q _ _ hs' (by omega)
theorem of_ev {a : Addr} {ds : List D} {s : Src} {Q : D × Src → Prop} (hs : s.addr = a) (h1 : ds ≠ []) (hm : ds.length ≤ 1000000) (q : ∀ d s', s'.addr = a → d ∈ ds → Q (d, s')) : wD (m_law_of [.obj a, .lst ds] s) Q := by
  have key : wD (m_law_of [.obj a, .lst ds] s) fun p => Q (p.1, p.2) := by
    refine run_C (Q := fun d s' => Q (d, s')) rfl ?_
    unfold m_law_ofB
    simp only [w_sRet, w_e2, w_e1, w_eCall, w_aCons, w_aNil, v_eV, List.map, List.cons_append, List.nil_append, List.getElem?_cons_zero, List.getElem?_cons_succ, slotE_sh, dLen, wD_some]
    have hp : 0 < ds.length := List.length_pos_iff.mpr h1
    refine pick_n hs hp (by omega) fun k s' hs' hk => ?_
    simp only
    rw [o_ixL, List.getElem?_eq_getElem hk]
    exact q _ _ hs' (List.getElem_mem hk)
  exact key
theorem mem_eraseIdx {α : Type} {l : List α} {j : Nat} {x : α} (h : x ∈ l.eraseIdx j) : x ∈ l := List.mem_of_mem_eraseIdx h
theorem mixed_ev {a : Addr} {v : D} {ds : List D} {s : Src} {Q : D × Src → Prop} (hs : s.addr = a) (hv : v = .lst ds ∨ v = .tup ds) (hm : ds.length ≤ 1000000) (q : ∀ es s', s'.addr = a → es.length = ds.length → (∀ e ∈ es, e ∈ ds) → Q (.lst es, s')) : wD (m_law_mixed [.obj a, v] s) Q := by
  have key : wD (m_law_mixed [.obj a, v] s) fun p => Q (p.1, p.2) := by
    refine run_C (Q := fun d s' => Q (d, s')) rfl ?_
    unfold m_law_mixedB
    have hl : dList v = some (.lst ds) := by rcases hv with rfl | rfl <;> rfl
    refine w_seq (fun ρ s => s.addr = a ∧ ρ = [some (.sh (.obj a)), some (.sh v), some (.ow (.lst ds)), none]) (fun Q' hn _ _ _ => ?_) ?_
    · simp only [w_sNew, w_e1, v_eV, List.map, List.cons_append, List.nil_append, List.getElem?_cons_zero, List.getElem?_cons_succ, slotE_sh, hl, wD_some]
      exact hn _ _ ⟨hs, rfl⟩
    rintro ρ s ⟨hs, rfl⟩
    rw [w_sRet]
    refine w_lcJ (P := fun pre acc ρ s => s.addr = a ∧ acc.length = pre.length ∧ (∀ e ∈ acc, e ∈ ds) ∧ ∃ rest : List D, rest.length + pre.length = ds.length ∧ (∀ e ∈ rest, e ∈ ds) ∧ ρ = [some (.sh (.obj a)), some (.sh v), some (.ow (.lst rest)), none]) ?_
    have hr : (-16777216 : Int) ≤ (ds.length : Int) ∧ (ds.length : Int) ≤ 16777216 := by omega
    simp only [w_iR1, v_eB1, List.getElem?_cons_zero, List.getElem?_cons_succ, slotX_ow, dLen, wD_some, isI_int, hr, and_self, if_true, Int.toNat_natCast, rangeL_nats]
    refine ⟨by trivial, ⟨hs, by trivial, fun e h => by simp at h, ds, by simp, fun e h => h, rfl⟩, fun pre d post acc ρ s e hp => ?_, fun acc ρ s hp => ?_⟩
    · obtain ⟨hs, ha, hm2, rest, hrl, hrm, rfl⟩ := hp
      refine ⟨_, rfl, ?_⟩
      rw [w_tYes, if_pos rfl]
      have hlen : pre.length < ds.length := by
        have := congrArg List.length e
        rw [List.length_map, List.length_range, List.length_append, List.length_cons] at this
        omega
      have hrp : 1 ≤ rest.length := by omega
      refine w_popAt (ds := rest) rfl ?_
      simp only [wipeE, w_eCall, w_aCons, w_aNil, v_eB1, v_eV, List.set, List.getElem?_cons_zero, List.getElem?_cons_succ, slotE_sh, slotX_ow, dLen, wD_some]
      refine pick_n hs hrp (by omega) fun k s' hs' hk => ?_
      refine ⟨by trivial, k, k, rest[k], rfl, ixD_nat hk, List.getElem?_eq_getElem hk, hs', by simp [ha], fun e he => ?_, rest.eraseIdx k, ?_, fun e he => hrm e (mem_eraseIdx he), rfl⟩
      · rcases List.mem_append.mp he with he | he
        · exact hm2 e he
        · rw [List.mem_singleton.mp he]; exact hrm _ (List.getElem_mem hk)
      · rw [List.length_eraseIdx, if_pos hk, List.length_append]
        simp
        omega
    · obtain ⟨hs, ha, hm2, rest, hrl, hrm, rfl⟩ := hp
      exact q _ _ hs (by rw [ha, List.length_map, List.length_range]) hm2
  exact key
end Fw
/-! ## G3 -/
set_option linter.all false
set_option maxRecDepth 100000
set_option maxHeartbeats 1000000
/-! What is shown. -/
namespace Fw
open PySem PySem.Spec PyProof.Rows L2
def rowT (l : List Int) : D := .tup (l.map .int)
mutual
/-- plain data, the atoms short -/
def vok : D → Bool
  | .int i => decide ((PyData.int i).shown.length ≤ 50) && decide (i.natAbs.log2 < 1920)
  | .str x => decide ((reprText x).length ≤ 50) && PyData.strOk (reprText x)
  | .lst ds => voks ds
  | .tup ds => voks ds
  | .dct kvs => kvs.isEmpty
  | .obj _ => false
  | _ => true
def voks : List D → Bool
  | [] => true
  | d :: r => vok d && voks r
end
mutual
def sz : D → Nat
  | .lst ds => szs ds + 2
  | .tup ds => szs ds + 3
  | _ => 50
def szs : List D → Nat
  | [] => 0
  | d :: r => sz d + 2 + szs r
end
mutual
def dpt : D → Nat
  | .lst ds => dpts ds + 1
  | .tup ds => dpts ds + 1
  | .dct _ => 1
  | _ => 0
def dpts : List D → Nat
  | [] => 0
  | d :: r => max (dpt d) (dpts r)
end
theorem textFrom_le : ∀ (ts : List Str) (k : Nat) (acc : Str), (textFrom k acc ts).length ≤ acc.length + piled ts
  | [], k, acc => by show acc.length ≤ _; omega
  | t :: r, k, acc => by
    have h := textFrom_le r (k + 1) (acc ++ (if k > 0 then ", " else "" : String) ++ t)
    have e : (acc ++ (if k > 0 then ", " else "" : String) ++ t).length = acc.length + (if k > 0 then 2 else 0) + t.length := by
      rw [strLen_append, strLen_append]
      split <;> rfl
    rw [e] at h
    rw [piled_cons]
    have e3 : (if k > 0 then 2 else 0 : Nat) ≤ 2 := by split <;> omega
    show (textFrom (k + 1) _ r).length ≤ _
    omega
theorem listText_le (ts : List Str) : (listText ts).length ≤ piled ts + 2 := by
  unfold listText
  rw [strLen_append]
  have h := textFrom_le ts 0 "["
  have e1 : (("[" : String) : Str).length = 1 := rfl
  have e2 : (("]" : String) : Str).length = 1 := rfl
  rw [e1] at h
  rw [e2]
  omega
theorem tupleText_le (ts : List Str) : (tupleText ts).length ≤ piled ts + 3 := by
  unfold tupleText
  rw [strLen_append, strLen_append]
  have e1 : (("(" : String) : Str).length = 1 := rfl
  have e2 : ((if ts.length == 1 then ",)" else ")" : String) : Str).length ≤ 2 := by split <;> decide
  by_cases h : ts = []
  · subst h
    have : (Str.join ", " []).length = 0 := rfl
    rw [e1, this]
    omega
  · have := join_length_add ts h
    rw [e1]
    omega
mutual
theorem vok_ok : ∀ d : D, vok d = true → nob d = true ∧ d.showOk = true ∧ d.py.shown.length ≤ sz d ∧ d.py.depth = dpt d
  | .non, _ => ⟨rfl, rfl, by show _ ≤ 50; decide, rfl⟩
  | .bl b, _ => ⟨rfl, rfl, by cases b <;> (show _ ≤ 50) <;> decide, rfl⟩
  | .int i, h => by
    simp only [vok, Bool.and_eq_true, decide_eq_true_eq] at h
    exact ⟨rfl, by simp only [D.showOk, decide_eq_true_eq]; exact h.2, h.1, rfl⟩
  | .str x, h => by
    simp only [vok, Bool.and_eq_true, decide_eq_true_eq] at h
    exact ⟨rfl, rfl, by simp only [D.py, PyData.shown]; exact h.1, rfl⟩
  | .lst ds, h => by
    simp only [vok] at h
    obtain ⟨h1, h2, h3, h4⟩ := voks_ok ds h
    refine ⟨by simpa [nob] using h1, by simpa [D.showOk] using h2, ?_, by simp only [D.py, PyData.depth, h4, dpt]⟩
    simp only [D.py, PyData.shown, sz]
    have := listText_le (PyData.shownAll (D.pys ds))
    omega
  | .tup ds, h => by
    simp only [vok] at h
    obtain ⟨h1, h2, h3, h4⟩ := voks_ok ds h
    refine ⟨by simpa [nob] using h1, by simpa [D.showOk] using h2, ?_, by simp only [D.py, PyData.depth, h4, dpt]⟩
    simp only [D.py, PyData.shown, sz]
    have := tupleText_le (PyData.shownAll (D.pys ds))
    omega
  | .dct kvs, h => by
    simp only [vok] at h
    cases kvs with
    | nil => exact ⟨rfl, rfl, by show _ ≤ 50; decide, rfl⟩
    | cons _ _ => cases h
  | .obj a, h => by simp [vok] at h
theorem voks_ok : ∀ ds : List D, voks ds = true → nobs ds = true ∧ D.showOks ds = true ∧ piled (PyData.shownAll (D.pys ds)) ≤ szs ds ∧ PyData.depthAll (D.pys ds) = dpts ds
  | [], _ => ⟨rfl, rfl, Nat.le_refl _, rfl⟩
  | d :: r, h => by
    simp only [voks, Bool.and_eq_true] at h
    obtain ⟨a1, a2, a3, a4⟩ := vok_ok d h.1
    obtain ⟨b1, b2, b3, b4⟩ := voks_ok r h.2
    refine ⟨by simp [nobs, a1, b1], by simp [D.showOks, a2, b2], ?_, by simp only [D.pys, PyData.depthAll, dpts, a4, b4]⟩
    simp only [D.pys, PyData.shownAll, szs, piled_cons]
    omega
end
def Val (d : D) : Prop := vok d = true ∧ sz d ≤ 1000000 ∧ dpt d ≤ 50
theorem Val.nob {d : D} (h : Val d) : Fw.nob d = true := (vok_ok d h.1).1
theorem Val.repr {d : D} (h : Val d) : dRepr d = some (.str d.py.shown) := by
  obtain ⟨_, h2, h3, h4⟩ := vok_ok d h.1
  unfold dRepr D.reprOk
  rw [if_pos]
  rw [h2, h4]
  have a := h.2.1
  have b := h.2.2
  simp only [Bool.true_and, Bool.and_eq_true, decide_eq_true_eq]
  exact ⟨by show _ ≤ 16777216; omega, by omega⟩
def sOk (x : Str) : Prop := ∀ c ∈ x.cps.toList, c < 1114112
theorem sOk.ok {x : Str} (h : sOk x) : PyData.strOk x = true := by
  unfold PyData.strOk
  rw [Array.all_eq_true']
  intro c hc
  exact decide_eq_true (h c (Array.mem_toList_iff.mpr hc))
theorem sOk.app {x y : Str} (h : sOk x) (h' : sOk y) : sOk (x ++ y) := fun c hc => (mem_cps_append.mp hc).elim (h c) (h' c)
theorem sOk_textFrom : ∀ (ts : List Str) (k : Nat) (acc : Str), sOk acc → (∀ t ∈ ts, sOk t) → sOk (textFrom k acc ts)
  | [], k, acc, h, _ => h
  | t :: r, k, acc, h, ht => by
    show sOk (textFrom (k + 1) (acc ++ (if k > 0 then ", " else "" : String) ++ t) r)
    refine sOk_textFrom r (k + 1) _ ((h.app ?_).app (ht t (List.mem_cons_self ..))) fun x hx => ht x (List.mem_cons_of_mem _ hx)
    split <;> intro c hc <;> revert c <;> decide
theorem sOk_join (sep : Str) (hs : sOk sep) : ∀ ts : List Str, (∀ t ∈ ts, sOk t) → sOk (Str.join sep ts)
  | [], _ => fun c hc => by
    have h : (Str.join sep []).cps.toList = [] := rfl
    rw [h] at hc
    cases hc
  | [t], h => h t (List.mem_cons_self ..)
  | t :: u :: r, h => by
    have h1 := sOk_join sep hs (u :: r) fun x hx => h x (List.mem_cons_of_mem _ hx)
    have h2 := ((h t (List.mem_cons_self ..)).app hs).app h1
    exact h2
theorem sOk_int (i : Int) : sOk (PyData.int i).shown := fun c hc => by
  rcases Nat.lt_or_ge c 1114112 with h | h
  · exact h
  · exact absurd hc (shown_int_free' ⟨by omega, Or.inr (by omega)⟩ i)
theorem ok_sOk {x : Str} (h : PyData.strOk x = true) : sOk x := fun c hc => by
  unfold PyData.strOk at h
  rw [Array.all_eq_true'] at h
  exact of_decide_eq_true (h c (Array.mem_toList_iff.mp hc))
mutual
theorem sv_shown : ∀ d : D, vok d = true → sOk d.py.shown
  | .non, _ => by show sOk (PyData.none.shown); intro c hc; revert c; decide
  | .bl b, _ => by cases b <;> (intro c hc; revert c; decide)
  | .int i, _ => sOk_int i
  | .str x, h => by
    simp only [vok, Bool.and_eq_true] at h
    simp only [D.py, PyData.shown]
    exact ok_sOk h.2
  | .lst ds, h => by
    simp only [vok] at h
    have k := svs_shown ds h
    simp only [D.py, PyData.shown]
    unfold listText
    exact (sOk_textFrom _ _ _ (by intro c hc; revert c; decide) k).app (by intro c hc; revert c; decide)
  | .tup ds, h => by
    simp only [vok] at h
    have k := svs_shown ds h
    simp only [D.py, PyData.shown]
    unfold tupleText
    refine (((by intro c hc; revert c; decide : sOk (Str.ofString "(")).app (sOk_join _ (by intro c hc; revert c; decide) _ k)).app ?_)
    split <;> (intro c hc; revert c; decide)
  | .dct kvs, h => by
    simp only [vok] at h
    cases kvs with
    | nil => intro c hc; revert c; decide
    | cons _ _ => cases h
  | .obj a, h => by simp [vok] at h
theorem svs_shown : ∀ ds : List D, voks ds = true → ∀ t ∈ PyData.shownAll (D.pys ds), sOk t
  | [], _ => fun t h => by cases h
  | d :: r, h => by
    simp only [voks, Bool.and_eq_true] at h
    intro t ht
    simp only [D.pys, PyData.shownAll, List.mem_cons] at ht
    rcases ht with rfl | ht
    · exact sv_shown d h.1
    · exact svs_shown r h.2 t ht
end
theorem Val.text {d : D} (h : Val d) : PyData.strOk d.py.shown = true := (sv_shown d h.1).ok
def Vb (c m : Nat) (d : D) : Prop := vok d = true ∧ sz d ≤ c ∧ dpt d ≤ m
theorem Vb.mono {c m c' m' : Nat} {d : D} (h : Vb c m d) (hc : c ≤ c') (hm : m ≤ m') : Vb c' m' d := ⟨h.1, Nat.le_trans h.2.1 hc, Nat.le_trans h.2.2 hm⟩
theorem vbs {c m : Nat} : ∀ {ds : List D}, (∀ x ∈ ds, Vb c m x) → voks ds = true ∧ szs ds ≤ (c + 2) * ds.length ∧ dpts ds ≤ m
  | [], _ => ⟨rfl, Nat.zero_le _, Nat.zero_le _⟩
  | d :: r, h => by
    obtain ⟨a1, a2, a3⟩ := h d (List.mem_cons_self ..)
    obtain ⟨b1, b2, b3⟩ := vbs fun x hx => h x (List.mem_cons_of_mem _ hx)
    refine ⟨by simp [voks, a1, b1], ?_, ?_⟩
    · simp only [szs, List.length_cons, Nat.mul_succ]; omega
    · simp only [dpts]; omega
theorem vb_tup {c m l : Nat} {ds : List D} (h : ∀ x ∈ ds, Vb c m x) (hl : ds.length ≤ l) : Vb ((c + 2) * l + 3) (m + 1) (.tup ds) := by
  obtain ⟨a, b, e⟩ := vbs h
  have := Nat.mul_le_mul_left (c + 2) hl
  exact ⟨by simp only [vok]; exact a, by simp only [sz]; omega, by simp only [dpt]; omega⟩
theorem vb_lst {c m l : Nat} {ds : List D} (h : ∀ x ∈ ds, Vb c m x) (hl : ds.length ≤ l) : Vb ((c + 2) * l + 2) (m + 1) (.lst ds) := by
  obtain ⟨a, b, e⟩ := vbs h
  have := Nat.mul_le_mul_left (c + 2) hl
  exact ⟨by simp only [vok]; exact a, by simp only [sz]; omega, by simp only [dpt]; omega⟩
theorem Vb.val {c m : Nat} {d : D} (h : Vb c m d) (hc : c ≤ 1000000) (hm : m ≤ 50) : Val d := h.mono hc hm
theorem vok_int {i : Int} (h : -999999999999 ≤ i ∧ i ≤ 999999999999) : vok (.int i) = true := by
  simp only [vok, Bool.and_eq_true, decide_eq_true_eq]
  refine ⟨?_, ?_⟩
  · have := PyData.shown_int_le2 h.1 h.2
    omega
  · have : i.natAbs < 2 ^ 40 := by omega
    have h2 : i.natAbs.log2 < 40 := by
      by_cases h0 : i.natAbs = 0
      · rw [h0]; decide
      · exact (Nat.log2_lt h0).mpr this
    omega
theorem vb_int {i : Int} (h : -999999999999 ≤ i ∧ i ≤ 999999999999) : Vb 50 0 (.int i) := ⟨vok_int h, Nat.le_refl _, Nat.le_refl _⟩
def TV (l : Nat) (d : D) : Prop := ∃ ds, d = .tup ds ∧ ds.length ≤ l ∧ ∀ x ∈ ds, Vb 500 8 x
theorem TV.vb {l : Nat} {d : D} (h : TV l d) (hl : l ≤ 100) : Vb 50203 9 d := by
  obtain ⟨ds, rfl, h1, h2⟩ := h
  exact vb_tup (l := 100) h2 (by omega)
theorem t_cut {l : Nat} {d : D} (h : TV l d) (lo hi : Option Int) : ∃ z, dCut lo hi d = some z ∧ TV l z := by
  obtain ⟨ds, rfl, h1, h2⟩ := h
  exact ⟨_, rfl, _, rfl, Nat.le_trans cutD_len h1, fun x hx => h2 x (mem_cutD hx)⟩
theorem t_add {c c' : Nat} {d e : D} (h : TV c d) (h' : TV c' e) (hc : c + c' ≤ 1000) : ∃ z, dAdd d e = some z ∧ TV (c + c') z := by
  obtain ⟨ds, rfl, h1, h2⟩ := h
  obtain ⟨es, rfl, h3, h4⟩ := h'
  refine ⟨.tup (ds ++ es), ?_, _, rfl, by rw [List.length_append]; omega, fun x hx => ?_⟩
  · show (if ds.length + es.length ≤ LIM then some (D.tup (ds ++ es)) else none) = _
    rw [if_pos (by show _ ≤ 16777216; omega)]
  · rcases List.mem_append.mp hx with hx | hx
    · exact h2 x hx
    · exact h4 x hx
theorem t_one {d : D} (h : Vb 500 8 d) : TV 1 (.tup [d]) := ⟨_, rfl, Nat.le_refl _, fun x hx => by rw [List.mem_singleton.mp hx]; exact h⟩
theorem t_put {c : Nat} {d x : D} (h : TV c d) (hx : Vb 500 8 x) (hc : c + 1 + c ≤ 1000) (lo hi : Option Int) : ∃ l z r w, dCut none lo d = some l ∧ dCut hi none d = some r ∧ dAdd l (.tup [x]) = some z ∧ dAdd z r = some w ∧ TV (c + 1 + c) w := by
  obtain ⟨l, h1, t1⟩ := t_cut h none lo
  obtain ⟨r, h2, t2⟩ := t_cut h hi none
  obtain ⟨z, h3, t3⟩ := t_add t1 (t_one hx) (by omega)
  obtain ⟨w, h4, t4⟩ := t_add t3 t2 hc
  exact ⟨l, z, r, w, h1, h2, h3, h4, t4⟩
theorem o_neSS {x : Str} (h : PyData.strOk x = true) : dNe (.str x) (.str x) = some (.bl false) := by
  simp only [dNe, D.eqOk, D.eqv]; simp
  exact ⟨⟨rfl, by simp [D.py, SeqAt.shaped]; exact ⟨by simp [PyData.canLay0, h], by simp [PyData.depth]⟩⟩, by simp [D.py, PyData.eqv]⟩
theorem o_addL {ds es : List D} (h : ds.length + es.length ≤ 1000) : dAdd (.lst ds) (.lst es) = some (.lst (ds ++ es)) := by
  show (if ds.length + es.length ≤ LIM then some (D.lst (ds ++ es)) else none) = _
  rw [if_pos (by show _ ≤ 16777216; omega)]
theorem val_app {ds es : List D} (h : ∀ d ∈ ds, Val d) (h' : ∀ d ∈ es, Val d) : ∀ d ∈ ds ++ es, Val d := fun d hd => (List.mem_append.mp hd).elim (h d) (h' d)
theorem val_non : Val .non := ⟨rfl, by decide, by decide⟩
theorem val_int {i : Int} (h : -999999999999 ≤ i ∧ i ≤ 999999999999) : Val (.int i) := (vb_int h).val (by decide) (by decide)
theorem o_zeros {n : Nat} (hn : n ≤ 1000) : dMul (.tup [.int 0]) (.int (n : Int)) = some (rowT (List.replicate n 0)) := by
  show (if -1000 ≤ (n : Int) ∧ (n : Int) ≤ 1000 ∧ 1 ≤ 1000 then some (D.tup (List.replicate (n : Int).toNat [D.int 0]).flatten) else none) = _
  rw [if_pos (by omega), Int.toNat_natCast]
  unfold rowT
  congr 2
  induction n with
  | zero => rfl
  | succ n ih => rw [List.replicate_succ, List.replicate_succ, List.flatten_cons, List.map_cons, ih (by omega)]; rfl
end Fw
/-! ## EvK -/
set_option Elab.async false
set_option linter.all false
/-! What the newer mirrors come to. -/
namespace Fw
section
variable {S : Type} {ρ : Env} {s : S}
theorem w_eD1 {k v : E S} {Q : D → Env → S → Prop} : wE (eD1 k v) ρ s Q = wE k ρ s fun x ρ s => wE v ρ s fun y ρ s => wD (key? x) fun k => Q (.dct [(k, y)]) ρ s := by
  unfold wE eD1
  cases k ρ s with
  | none => rfl
  | some t =>
    obtain ⟨x, ρ1, s1⟩ := t
    dsimp only
    cases v ρ1 s1 with
    | none => rfl
    | some u =>
      obtain ⟨y, ρ2, s2⟩ := u
      dsimp only
      cases key? x <;> rfl
theorem w_aStar {a : E S} {r : As S} {Q : List D → Env → S → Prop} : wA (aStar a r) ρ s Q = wE a ρ s fun x ρ s => wD (items? x) fun xs => wA r ρ s fun ys ρ s => Q (xs ++ ys) ρ s := by
  unfold wA wE aStar
  cases a ρ s with
  | none => rfl
  | some t =>
    obtain ⟨x, ρ1, s1⟩ := t
    dsimp only
    cases items? x with
    | none => rfl
    | some xs =>
      simp only [wD]
      cases r ρ1 s1 <;> rfl
/-- a dict is written: the key and the value leave the slot alone -/
theorem i_putK {a k : E S} {i : Nat} {kvs : List (Key × D)} {Q : Ctl → Env → S → Prop} (h : ρ[i]? = some (some (.ow (.dct kvs))))
    (q : wE a ρ s fun x ρ1 s1 => ρ1 = ρ ∧ wE k ρ s1 fun y ρ2 s2 => ρ2 = ρ ∧ wD (key? y) fun k => kvs.length < LIM ∧ Q .nx (ρ.set i (some (.ow (.dct (dput kvs k x))))) s2) : wS (sPutK a i k) ρ s Q := by
  unfold wE at q
  unfold wS sPutK
  cases e : a ρ s with
  | none => rw [e] at q; exact q.elim
  | some t =>
    obtain ⟨x, ρ1, s1⟩ := t
    rw [e] at q
    obtain ⟨rfl, q⟩ := q
    dsimp only
    rw [h]
    dsimp only
    cases e2 : k ρ1 s1 with
    | none => rw [e2] at q; exact q.elim
    | some u =>
      obtain ⟨y, ρ2, s2⟩ := u
      rw [e2] at q
      obtain ⟨rfl, q⟩ := q
      dsimp only
      rw [h]
      cases e3 : key? y with
      | none => rw [e3] at q; exact q.elim
      | some kk =>
        rw [e3] at q
        obtain ⟨q1, q2⟩ := q
        dsimp only
        rw [if_pos q1]
        exact q2
/-- an item of an owned list is written -/
theorem i_setIx {a k : E S} {i : Nat} {ds : List D} {Q : Ctl → Env → S → Prop} (h : ρ[i]? = some (some (.ow (.lst ds))))
    (q : wE a ρ s fun x ρ1 s1 => ρ1 = ρ ∧ wE k ρ s1 fun y ρ2 s2 => ρ2 = ρ ∧ isI y fun z => wD (ixD ds.length z) fun j => Q .nx (ρ.set i (some (.ow (.lst (ds.set j x))))) s2) : wS (sSetIx a i k) ρ s Q := by
  unfold wE at q
  unfold wS sSetIx
  cases e : a ρ s with
  | none => rw [e] at q; exact q.elim
  | some t =>
    obtain ⟨x, ρ1, s1⟩ := t
    rw [e] at q
    obtain ⟨rfl, q⟩ := q
    dsimp only
    rw [h]
    dsimp only
    cases e2 : k ρ1 s1 with
    | none => rw [e2] at q; exact q.elim
    | some u =>
      obtain ⟨y, ρ2, s2⟩ := u
      rw [e2] at q
      obtain ⟨rfl, q⟩ := q
      cases y with
      | int z =>
        dsimp only
        rw [h]
        dsimp only
        simp only [isI_int] at q
        cases e3 : ixD ds.length z with
        | none => rw [e3] at q; exact q.elim
        | some j => rw [e3] at q; exact q
      | _ => exact q.elim
/-- y[k] op= a -/
theorem i_augIx {op : D → D → Option D} {a k : E S} {i : Nat} {ds : List D} {Q : Ctl → Env → S → Prop} (h : ρ[i]? = some (some (.ow (.lst ds))))
    (q : wE k ρ s fun y ρ1 s1 => ρ1 = ρ ∧ isI y fun z => wD (ixD ds.length z) fun j => wD ds[j]? fun x => wE a ρ s1 fun w ρ2 s2 => ρ2 = ρ ∧ wD (op x w) fun v => Q .nx (ρ.set i (some (.ow (.lst (ds.set j v))))) s2) : wS (sAugIx op i k a) ρ s Q := by
  unfold wE at q
  unfold wS sAugIx
  rw [h]
  dsimp only
  cases e : k ρ s with
  | none => rw [e] at q; exact q.elim
  | some t =>
    obtain ⟨y, ρ1, s1⟩ := t
    rw [e] at q
    obtain ⟨rfl, q⟩ := q
    cases y with
    | int z =>
      dsimp only
      rw [h]
      dsimp only
      simp only [isI_int] at q
      cases e3 : ixD ds.length z with
      | none => rw [e3] at q; exact q.elim
      | some j =>
        rw [e3] at q
        simp only [wD_some] at q
        simp only [Option.bind_some]
        cases e4 : ds[j]? with
        | none => rw [e4] at q; exact q.elim
        | some x =>
          rw [e4] at q
          simp only [wD_some] at q
          dsimp only
          cases e5 : a ρ1 s1 with
          | none => rw [e5] at q; exact q.elim
          | some u =>
            obtain ⟨w, ρ2, s2⟩ := u
            rw [e5] at q
            obtain ⟨rfl, q⟩ := q
            dsimp only
            rw [h]
            cases e6 : op x w with
            | none => rw [e6] at q; exact q.elim
            | some v =>
              rw [e6] at q
              dsimp only
              rw [e3]
              exact q
    | _ => exact q.elim
/-- while: J n: what stands at the head, n falling -/
theorem w_sWh {fuel : Nat} {t : T S} {body : C S} {dead : List Nat} {Q : Ctl → Env → S → Prop} (J : Nat → Env → S → Prop) {n : Nat} (hn : n < fuel) (h0 : J n (wipeE dead ρ) s)
    (hs : ∀ n ρ s, J n ρ s → wT t ρ s fun b ρ s => if b = true then wS body ρ s (fun c ρ s => match c with
      | .nx => ∃ m, m < n ∧ J m (wipeE dead ρ) s | .ct => ∃ m, m < n ∧ J m (wipeE dead ρ) s | .bk => Q .nx ρ s | .rt d => Q (.rt d) ρ s) else Q .nx ρ s) : wS (sWh fuel t body dead) ρ s Q := by
  have key : ∀ fuel n ρ s, n < fuel → J n ρ s → (match whL t body dead fuel ρ s with
      | some (c, ρ, s) => Q c ρ s
      | none => False) := fun fuel => by
    induction fuel with
    | zero => intro n ρ s h; omega
    | succ fuel ih =>
      intro n ρ s h hj
      have := hs n ρ s hj
      unfold wT at this
      unfold whL
      cases e : t ρ s with
      | none => rw [e] at this; exact this.elim
      | some u =>
        obtain ⟨b, ρ1, s1⟩ := u
        rw [e] at this
        cases b with
        | false =>
          simp only [Bool.false_eq_true, if_false] at this
          exact this
        | true =>
          simp only [if_true] at this
          unfold wS at this
          dsimp only
          cases e2 : body ρ1 s1 with
          | none => rw [e2] at this; exact this.elim
          | some v =>
            obtain ⟨c, ρ2, s2⟩ := v
            rw [e2] at this
            cases c with
            | nx => obtain ⟨m, hm, hj⟩ := this; exact ih m _ _ (by omega) hj
            | ct => obtain ⟨m, hm, hj⟩ := this; exact ih m _ _ (by omega) hj
            | bk => exact this
            | rt d => exact this
  exact key fuel n _ _ hn h0
theorem w_iZip {a b : E S} {Q : List D → Env → S → Prop} : wI (iZip a b) ρ s Q = wE a ρ s fun x ρ s => wE b ρ s fun y ρ s => wD (items? x) fun ds => wD (items? y) fun es => Q (zipL ds es) ρ s := by
  unfold wI wE iZip
  cases a ρ s with
  | none => rfl
  | some t =>
    obtain ⟨x, ρ1, s1⟩ := t
    dsimp only
    cases b ρ1 s1 with
    | none => rfl
    | some u =>
      obtain ⟨y, ρ2, s2⟩ := u
      dsimp only
      cases items? x with
      | none => rfl
      | some ds => cases items? y <;> rfl
theorem w_eApp {i : Nat} {a : E S} {ds : List D} {Q : D → Env → S → Prop} (h : ρ[i]? = some (some (.ow (.lst ds)))) (q : wE a ρ s fun x ρ1 s1 => ρ1 = ρ ∧ ds.length < LIM ∧ Q .non (ρ.set i (some (.ow (.lst (ds ++ [x]))))) s1) : wE (eApp i a) ρ s Q := by
  rw [v_eApp, h, ownL_ow]
  refine wE_mono q fun x ρ1 s1 h1 => ?_
  obtain ⟨rfl, h2, h3⟩ := h1
  rw [h, ownL_ow]
  exact ⟨h2, h3⟩
end
end Fw
/-! ## T2 -/
set_option linter.all false
set_option maxRecDepth 100000
set_option maxHeartbeats 1000000
namespace Fw
open PySem PySem.Spec PyProof.Rows L2
def dRoad (p : Nat × Nat) : D := .tup [.int p.1, .int p.2]
def Nt.d (G : Nt) : D := .tup [.int G.n, .tup (G.roads.map dRoad)]
def tD (t : List Nat) : D := .tup (nats t)
theorem o_ixTN (l : List Nat) {a : Nat} (h : a < l.length) : dIx (.tup (nats l)) (.int a) = some (.int (l.getD a 0 : Nat)) := by
  rw [o_ixT, List.getElem?_map, List.getElem?_eq_getElem h, List.getD_eq_getElem?_getD, List.getElem?_eq_getElem h]
  rfl
theorem o_ixLN (l : List Nat) {a : Nat} (h : a < l.length) : dIx (.lst (nats l)) (.int a) = some (.int (l.getD a 0 : Nat)) := o_ixTN l h
theorem o_roads (G : Nt) : dIx G.d (.int 1) = some (.tup (G.roads.map dRoad)) := o_ix1 _
theorem o_n (G : Nt) : dIx G.d (.int 0) = some (.int G.n) := o_ix0 _
theorem o_road {G : Nt} {r : Nat} (h : r < G.roads.length) : dIx (.tup (G.roads.map dRoad)) (.int (r : Int)) = some (dRoad (G.at r)) := by
  rw [o_ixT, List.getElem?_map, List.getElem?_eq_getElem h]
  unfold Nt.at
  rw [List.getD_eq_getElem?_getD, List.getElem?_eq_getElem h]
  rfl
theorem o_side0 (p : Nat × Nat) : dIx (dRoad p) (.int 0) = some (.int p.1) := o_ix0 _
theorem o_side1 (p : Nat × Nat) : dIx (dRoad p) (.int 1) = some (.int p.2) := o_ix1 _
theorem o_tail {G : Nt} {t : List Nat} (h : Tn G t) {r : Nat} (hr : r < G.roads.length) : dIx (dRoad (G.at r)) (.int (t.getD r 0 : Nat)) = some (.int (G.tail t r)) := by
  unfold Nt.tail
  rcases h.bit hr with e | e <;> rw [e]
  · exact o_side0 _
  · exact o_side1 _
theorem o_head {G : Nt} {t : List Nat} (h : Tn G t) {r : Nat} (hr : r < G.roads.length) : dIx (dRoad (G.at r)) (.int (1 - (t.getD r 0 : Nat))) = some (.int (G.head t r)) := by
  unfold Nt.head
  rcases h.bit hr with e | e <;> rw [e]
  · exact o_side1 _
  · exact o_side0 _
theorem ev_tail_of {G : Nt} {t : List Nat} (h : Tn G t) {r : Nat} (hr : r < G.roads.length) : m_tail_of [G.d, tD t, .int r] = some (.int (G.tail t r)) := by
  refine wD_eq (run_P rfl ?_)
  unfold m_tail_ofB
  show wS _ [some (.sh G.d), some (.sh (.tup (nats t))), some (.sh (.int r))] () _
  rw [w_sRet]
  simp only [↓w_e2, ↓w_eC, ↓v0, ↓v1, ↓v2]
  simp only [o_roads, o_road hr, o_ixTN t (show r < t.length by rw [h.len]; exact hr), o_tail h hr, wD_some]
theorem ev_head_of {G : Nt} {t : List Nat} (h : Tn G t) {r : Nat} (hr : r < G.roads.length) : m_head_of [G.d, tD t, .int r] = some (.int (G.head t r)) := by
  refine wD_eq (run_P rfl ?_)
  unfold m_head_ofB
  show wS _ [some (.sh G.d), some (.sh (.tup (nats t))), some (.sh (.int r))] () _
  rw [w_sRet]
  simp only [↓w_e2, ↓w_eC, ↓v0, ↓v1, ↓v2]
  have e1 : dSub (.int 1) (.int (t.getD r 0 : Nat)) = some (.int (1 - (t.getD r 0 : Nat))) := rfl
  simp only [o_roads, o_road hr, o_ixTN t (show r < t.length by rw [h.len]; exact hr), e1, o_head h hr, wD_some]
theorem o_rep0 (n : Nat) (hn : n ≤ 1000) : dRep (.lst [.int 0]) (.int (n : Int)) = some (.lst (nats (List.replicate n 0))) := by
  show (if -1000000 ≤ (n : Int) ∧ (n : Int) ≤ 1000000 ∧ 1 * (n : Int).toNat ≤ LIM then some (D.lst (List.replicate (n : Int).toNat [D.int 0]).flatten) else none) = _
  rw [if_pos ⟨by omega, by omega, by show _ ≤ 16777216; omega⟩, Int.toNat_natCast]
  congr 2
  unfold nats
  clear hn
  induction n with
  | zero => rfl
  | succ n ih => rw [List.replicate_succ, List.replicate_succ, List.flatten_cons, List.map_cons, ih]; rfl
theorem nats_set (l : List Nat) (i v : Nat) : (nats l).set i (.int v) = nats (l.set i v) := by
  unfold nats
  rw [List.map_set]
theorem ev_outs_of {G : Nt} (hG : G.Ok) {t : List Nat} (h : Tn G t) : m_outs_of [G.d, tD t] = some (tD (G.outs t G.roads.length)) := by
  refine wD_eq (run_P rfl ?_)
  unfold m_outs_ofB
  show wS _ [some (.sh G.d), some (.sh (tD t)), none, none] () _
  have hn := hG.n2
  have hm := hG.m
  rw [w_sSeq, w_sNew]
  simp only [↓w_e2, ↓w_eLst1, ↓w_eC, ↓v0]
  simp only [o_n, o_rep0 G.n (by omega), wD_some]
  show wS _ [some (.sh G.d), some (.sh (tD t)), some (.ow (.lst (nats (List.replicate G.n 0)))), none] () _
  rw [w_sSeq]
  refine w_sFor ?_
  rw [w_iR1]
  simp only [↓w_e1, ↓w_e2, ↓w_eC, ↓v0]
  simp only [o_roads, dLen, List.length_map, wD_some, isI_int]
  rw [if_pos (by omega), wD_some, Int.toNat_natCast, rangeL_nats]
  refine ⟨fun k ρ _ => ρ = [some (.sh G.d), some (.sh (tD t)), some (.ow (.lst (nats (G.outs t k)))), none], by show _ = _; rw [outs_zero]; rfl, ?_, ?_⟩
  · rintro k d ρ s hd rfl
    obtain ⟨rfl, hk⟩ := take_succ_range hd
    refine ⟨_, rfl, ?_⟩
    show wS _ [some (.sh G.d), some (.sh (tD t)), some (.ow (.lst (nats (G.outs t k)))), some (.sh (.int k))] () _
    refine i_augIx (ds := nats (G.outs t k)) rfl ?_
    have hc := hG.tail_lt (t := t) hk
    simp only [↓w_eCallP, ↓w_aCons, ↓w_aNil, ↓w_eC, ↓v0, ↓v1, ↓v3]
    simp only [ev_tail_of h hk, wD_some, isI_int]
    refine ⟨by trivial, ?_⟩
    have hl : (nats (G.outs t k)).length = G.n := by rw [List.length_map, outs_len]
    rw [ixD_nat (by omega), wD_some]
    have hg : (nats (G.outs t k))[G.tail t k]? = some (.int ((G.outs t k).getD (G.tail t k) 0 : Nat)) := by
      have := o_ixLN (G.outs t k) (a := G.tail t k) (by rw [outs_len]; exact hc)
      rw [o_ixL] at this
      exact this
    rw [hg, wD_some]
    refine ⟨by trivial, ?_⟩
    have : dAddI (.int ((G.outs t k).getD (G.tail t k) 0 : Nat)) (.int 1) = some (.int (((G.outs t k).getD (G.tail t k) 0 + 1 : Nat) : Int)) := rfl
    rw [this, wD_some, nats_set, outs_succ]
    rfl
  · rintro ρ s rfl
    show wS _ _ _ _
    rw [List.length_map, List.length_range, w_sRet, w_e1, v_eV]
    rfl
theorem zipL_at : ∀ {ds es : List D} {k : Nat} {x y : D}, ds[k]? = some x → es[k]? = some y → (zipL ds es)[k]? = some (.tup [x, y])
  | d :: ds, e :: es, 0, x, y, h1, h2 => by
    simp only [List.getElem?_cons_zero, Option.some.injEq] at h1 h2
    subst h1 h2
    rfl
  | d :: ds, e :: es, k + 1, x, y, h1, h2 => by
    simp only [List.getElem?_cons_succ] at h1 h2
    show (zipL ds es)[k]? = _
    exact zipL_at (ds := ds) (es := es) (k := k) h1 h2
  | [], _, _, _, _, h1, _ => by simp at h1
  | _ :: _, [], _, _, _, _, h2 => by simp at h2
theorem zipL_min : ∀ {ds es : List D}, (zipL ds es).length = min ds.length es.length
  | [], _ => by simp [zipL]
  | _ :: _, [] => by simp [zipL]
  | d :: ds, e :: es => by
    show (zipL ds es).length + 1 = _
    rw [zipL_min, List.length_cons, List.length_cons]
    omega
theorem o_zip {G : Nt} {t : List Nat} (h : Tn G t) : (zipL (G.roads.map dRoad) (nats t)).length = G.roads.length ∧ ∀ (k : Nat) d, (zipL (G.roads.map dRoad) (nats t))[k]? = some d → k < G.roads.length ∧ d = .tup [dRoad (G.at k), .int (t.getD k 0 : Nat)] := by
  have hl : (zipL (G.roads.map dRoad) (nats t)).length = G.roads.length := by rw [zipL_min, List.length_map, List.length_map, h.len]; omega
  refine ⟨hl, fun k d hd => ?_⟩
  have hk : k < G.roads.length := by rw [← hl]; exact (List.getElem?_eq_some_iff.mp hd).1
  have e1 := o_road hk
  have e2 := o_ixTN t (a := k) (by rw [h.len]; exact hk)
  rw [o_ixT] at e1 e2
  rw [zipL_at e1 e2] at hd
  exact ⟨hk, (Option.some.inj hd).symm⟩
theorem ev_law_outs {G : Nt} (hG : G.Ok) {t : List Nat} (h : Tn G t) : m_law_outs [G.d, tD t] = some (tD (G.outs t G.roads.length)) := by
  refine wD_eq (run_P rfl ?_)
  unfold m_law_outsB
  show wS _ [some (.sh G.d), some (.sh (tD t)), none, none, none] () _
  have hn := hG.n2
  have hm := hG.m
  rw [w_sSeq, w_sNew]
  simp only [↓w_e2, ↓w_eLst1, ↓w_eC, ↓v0]
  simp only [o_n, o_rep0 G.n (by omega), wD_some]
  show wS _ [some (.sh G.d), some (.sh (tD t)), some (.ow (.lst (nats (List.replicate G.n 0)))), none, none] () _
  rw [w_sSeq]
  refine w_sFor ?_
  rw [w_iZip]
  simp only [↓w_e2, ↓w_eC, ↓v0, ↓v1]
  simp only [o_roads, wD_some]
  have i1 : items? (.tup (G.roads.map dRoad)) = some (G.roads.map dRoad) := rfl
  have i2 : items? (tD t) = some (nats t) := rfl
  rw [i1, wD_some, i2, wD_some]
  obtain ⟨zl, za⟩ := o_zip h
  refine ⟨fun k ρ _ => ρ = [none, none, some (.ow (.lst (nats (G.outs t k)))), none, none], by show _ = _; rw [outs_zero]; rfl, ?_, ?_⟩
  · rintro k d ρ s hd rfl
    obtain ⟨hk, rfl⟩ := za k d hd
    refine ⟨_, rfl, ?_⟩
    show wS _ [none, none, some (.ow (.lst (nats (G.outs t k)))), some (.sh (dRoad (G.at k))), some (.sh (.int (t.getD k 0 : Nat)))] () _
    have hc := hG.tail_lt (t := t) hk
    have hg : dIx (.lst (nats (G.outs t k))) (.int (G.tail t k)) = some (.int ((G.outs t k).getD (G.tail t k) 0 : Nat)) := o_ixLN _ (by rw [outs_len]; exact hc)
    refine i_setIx (ds := nats (G.outs t k)) rfl ?_
    rw [w_e2, v_eBL]
    simp only [List.getElem?_cons_zero, List.getElem?_cons_succ, slotX_ow]
    simp only [↓w_e2, ↓w_eC, ↓v3, ↓v4]
    simp only [o_tail h hk, wD_some, List.getElem?_cons_zero, List.getElem?_cons_succ, slotX_ow, hg]
    have : dAdd (.int ((G.outs t k).getD (G.tail t k) 0 : Nat)) (.int 1) = some (.int (((G.outs t k).getD (G.tail t k) 0 + 1 : Nat) : Int)) := rfl
    rw [this, wD_some]
    refine ⟨by trivial, by trivial, ?_⟩
    rw [isI_int, ixD_nat (by rw [List.length_map, outs_len]; exact hc), wD_some, nats_set, outs_succ]
    rfl
  · rintro ρ s rfl
    show wS _ _ _ _
    rw [zl, w_sRet, w_e1, v_eV]
    rfl
def Sm (d : D) : Prop := nob d = true ∧ d.pure = true ∧ PyData.canLay0 d.py = true ∧ d.py.depth ≤ 1
theorem eqOk_sm {ds : List D} (h : ∀ d ∈ ds, Sm d) : D.eqOk (.lst ds) = true := by
  have h1 : ∀ l : List D, (∀ d ∈ l, Sm d) → D.pures l = true ∧ PyData.canLayAll0 (D.pys l) = true ∧ PyData.depthAll (D.pys l) ≤ 1 := fun l => by
    induction l with
    | nil => exact fun _ => ⟨rfl, rfl, by decide⟩
    | cons x r ih =>
      intro h
      obtain ⟨a0, a1, a2, a3⟩ := h x (List.mem_cons_self ..)
      obtain ⟨b1, b2, b3⟩ := ih fun d hd => h d (List.mem_cons_of_mem _ hd)
      refine ⟨by simp [D.pures, a1, b1], by simp [D.pys, PyData.canLayAll0, a2, b2], ?_⟩
      simp only [D.pys, PyData.depthAll]
      omega
  obtain ⟨a, b, c⟩ := h1 ds h
  unfold D.eqOk SeqAt.shaped
  have : D.pure (.lst ds) = true := a
  rw [this]
  simp only [D.py, PyData.canLay0, PyData.depth, b, Bool.true_and, Bool.and_eq_true, decide_eq_true_eq]
  omega
def isBit : D → Bool
  | .int i => decide (i = 0) || decide (i = 1)
  | _ => false
def Ask (v : D) : Prop := nob v = true ∧ ∀ ds, v = .tup ds → ∀ d ∈ ds, Sm d
theorem o_in01 (i : Int) : dIn (.int i) (.tup [.int 0, .int 1]) = some (.bl (decide (i = 0) || decide (i = 1))) := by
  have e : ∀ j : Int, D.eqv (.int j) (.int i) = decide (i = j) := fun j => by
    show (j == i) = _
    exact Bool.eq_iff_iff.mpr (by simp; exact eq_comm)
  have k : (D.int i).eqOk = true := rfl
  show (if (D.int i).eqOk = true ∧ D.eqOk (.tup [.int 0, .int 1]) = true then some (D.bl ([D.int 0, .int 1].any fun z => D.eqv z (.int i))) else none) = _
  rw [if_pos ⟨rfl, rfl⟩]
  simp only [List.any_cons, List.any_nil, e, Bool.or_false]
theorem o_notin01 (i : Int) : dNotIn (.int i) (.tup [.int 0, .int 1]) = some (.bl !(decide (i = 0) || decide (i = 1))) := by
  unfold dNotIn
  rw [o_in01]
  rfl
theorem ev_is_int {d : D} (h : nob d = true) : m_law_is_int [d] = some (.bl (isN d)) := by
  refine wD_eq (run_P rfl ?_)
  unfold m_law_is_intB
  show wS _ [some (.sh d)] () _
  rw [w_sRet]
  simp only [↓w_eAnd, ↓w_e1, ↓v0]
  cases d <;> simp [nob] at h <;> simp [dIsi, wD, isB, isN, dNot]
theorem isTup_cases (v : D) (h : nob v = true) : (∃ ds, v = .tup ds) ∨ dIsi "tuple" v = some (.bl false) := by
  cases v <;> simp [nob] at h <;> first | exact .inl ⟨_, rfl⟩ | exact .inr rfl
def turnB (m : Nat) (v : D) : Bool := match v with
  | .tup ds => decide (ds.length = m) && ds.all isBit
  | _ => false
end Fw
/-! ## T3 -/
set_option linter.all false
set_option maxRecDepth 100000
set_option maxHeartbeats 1000000
namespace Fw
open PySem PySem.Spec PyProof.Rows L2
theorem filter_empty {α : Type} (p : α → Bool) (l : List α) : (l.filter fun x => !p x).isEmpty = l.all p := by
  induction l with
  | nil => rfl
  | cons x r ih =>
    rw [List.filter_cons, List.all_cons]
    cases h : p x with
    | true => simpa [h] using ih
    | false => simp
def outsB (n : Nat) (v : D) : Bool := match v with
  | .tup ds => decide (ds.length = n) && ds.all isN
  | _ => false
theorem o_inN (l : List Nat) (c : D) (hc : c = .lst (nats l) ∨ c = .tup (nats l)) (k : Nat) : dIn (.int (k : Int)) c = some (.bl (decide (k ∈ l))) := by
  have e : (nats l).any (fun z => D.eqv z (.int (k : Int))) = decide (k ∈ l) := by
    clear hc
    induction l with
    | nil => rfl
    | cons x r ih =>
      show ((D.eqv (.int (x : Int)) (.int (k : Int))) || (nats r).any fun z => D.eqv z (.int (k : Int))) = _
      rw [ih]
      have : D.eqv (.int (x : Int)) (.int (k : Int)) = decide (k = x) := by
        show ((x : Int) == (k : Int)) = _
        exact Bool.eq_iff_iff.mpr (by simp; omega)
      rw [this]
      by_cases h : k = x <;> simp [h]
  have en : nats l = (l.map fun (x : Nat) => (x : Int)).map .int := by unfold nats; rw [List.map_map]; rfl
  rcases hc with rfl | rfl
  · show (if (D.int k).eqOk = true ∧ D.eqOk (.lst (nats l)) = true then some (D.bl ((nats l).any fun z => D.eqv z (.int k))) else none) = _
    rw [if_pos ⟨rfl, by rw [en]; exact eqOk_ints _⟩, e]
  · show (if (D.int k).eqOk = true ∧ D.eqOk (.tup (nats l)) = true then some (D.bl ((nats l).any fun z => D.eqv z (.int k))) else none) = _
    rw [if_pos ⟨rfl, by rw [en]; exact eqOk_tupI _⟩, e]
def flipT (rs t : List Nat) : List Nat := (List.range t.length).map fun k => if k ∈ rs then 1 - t.getD k 0 else t.getD k 0
theorem enum_inv {t : List Nat} {pre post : List D} {d : D} (e : enumL 0 (nats t) = pre ++ d :: post) : pre.length < t.length ∧ d = .tup [.int pre.length, .int (t.getD pre.length 0 : Nat)] := by
  have h : (enumL 0 (nats t))[pre.length]? = some d := by rw [e]; simp
  rw [enumL_at] at h
  cases h2 : (nats t)[pre.length]? with
  | none => rw [h2] at h; cases h
  | some x =>
    rw [h2] at h
    have hl : pre.length < t.length := by
      have := (List.getElem?_eq_some_iff.mp h2).1
      simpa using this
    refine ⟨hl, ?_⟩
    rw [List.getElem?_map, List.getElem?_eq_getElem hl] at h2
    simp only [Option.map_some, Option.some.injEq] at h h2
    rw [← h, ← h2, List.getD_eq_getElem?_getD, List.getElem?_eq_getElem hl]
    simp
theorem flip_ev {S : Type} {ρ : Env} {s : S} {i j k l : Nat} {t rs : List Nat} {c : D} (hc : c = .lst (nats rs) ∨ c = .tup (nats rs)) (ht : ∀ x ∈ t, x ≤ 1) {Q : D → Env → S → Prop}
    (h0 : wE (eV i) ρ s fun x ρ1 s1 => x = tD t ∧ ρ1 = ρ ∧ s1 = s)
    (hown : [k, l].all (notOw ρ) = true)
    (hin : ∀ x y : D, ∃ ρt, gTup (gCons (gN k) (gCons (gN l) gNil)) (.tup [x, y]) (wipeE [k, l] ρ) = some ρt ∧ ρt[k]? = some (some (.sh x)) ∧ ρt[l]? = some (some (.sh y)) ∧ ρt[j]? = some (some (.sh c)) ∧ backE ρ [k, l] ρt = ρ)
    (q : Q (.lst (nats (flipT rs t))) ρ s) :
    wE (eLc (iEnum (eV i)) (gTup (gCons (gN k) (gCons (gN l) gNil))) Fw.tYes (eIf (tE (e2 dIn (eV k) (eV j))) (e2 dSub (eC (.int 1)) (eV l)) (eV l)) [k, l]) ρ s Q := by
  refine w_lc (I := fun s' => s' = s) (P := fun pre acc => acc = nats ((List.range pre.length).map fun k => if k ∈ rs then 1 - t.getD k 0 else t.getD k 0)) ?_
  rw [w_iEnum]
  refine wE_mono h0 fun x ρ1 s1 hx => ?_
  obtain ⟨rfl, rfl, rfl⟩ := hx
  have i1 : items? (tD t) = some (nats t) := rfl
  rw [i1, wD_some]
  refine ⟨rfl, rfl, hown, rfl, fun pre d post acc s' e hp hs => ?_, fun acc s' hp hs => ?_⟩
  · obtain ⟨hl, rfl⟩ := enum_inv e
    obtain ⟨ρt, g0, g1, g2, g3, g4⟩ := hin (.int pre.length) (.int (t.getD pre.length 0 : Nat))
    refine ⟨ρt, g0, ?_⟩
    rw [w_tYes, if_pos rfl, w_eIf, w_tE, w_e2, w_eV g1, w_eV g3, o_inN rs c hc, wD_some, isB_bl]
    have hle : t.getD pre.length 0 ≤ 1 := by
      rw [List.getD_eq_getElem?_getD, List.getElem?_eq_getElem hl]
      exact ht _ (List.getElem_mem hl)
    have fin : ∀ v : Nat, v = (if pre.length ∈ rs then 1 - t.getD pre.length 0 else t.getD pre.length 0) → acc ++ [D.int (v : Int)] = nats ((List.range (pre ++ [D.tup [.int pre.length, .int (t.getD pre.length 0 : Nat)]]).length).map fun k => if k ∈ rs then 1 - t.getD k 0 else t.getD k 0) := fun v hv => by
      rw [List.length_append, List.length_cons, List.length_nil, List.range_succ, List.map_append, hp, hv]
      unfold nats
      rw [List.map_append]
      rfl
    by_cases hm : pre.length ∈ rs
    · rw [decide_eq_true hm, if_pos rfl, w_e2, w_eC, w_eV g2]
      have : dSub (.int 1) (.int (t.getD pre.length 0 : Nat)) = some (.int ((1 - t.getD pre.length 0 : Nat) : Int)) := by
        show some (D.int (1 - ((t.getD pre.length 0 : Nat) : Int))) = _
        congr 2
        omega
      rw [this, wD_some]
      exact ⟨fin _ (by rw [if_pos hm]), hs, g4⟩
    · rw [decide_eq_false hm, if_neg Bool.false_ne_true, w_eV g2]
      exact ⟨fin _ (by rw [if_neg hm]), hs, g4⟩
  · subst hs hp
    have : (enumL 0 (nats t)).length = t.length := by
      have : ∀ (l : List D) j, (enumL j l).length = l.length := fun l => by
        induction l with
        | nil => intro j; rfl
        | cons x r ih => intro j; show (enumL (j + 1) r).length + 1 = _; rw [ih]; rfl
      rw [this, List.length_map]
    rw [this]
    exact q
end Fw
/-! ## T4 -/
set_option linter.all false
set_option maxRecDepth 100000
set_option maxHeartbeats 1000000
namespace Fw
open PySem PySem.Spec PyProof.Rows L2
def kd {α : Type} (f : α → D) (l : List (Nat × α)) : List (Key × D) := l.map fun p => (Sum.inl (p.1 : Int), f p.2)
theorem key_inj {a b : Nat} : (Sum.inl (a : Int) : Key) = Sum.inl (b : Int) ↔ a = b := by
  constructor
  · intro h
    have := Sum.inl.inj h
    omega
  · intro h; rw [h]
theorem kd_none {α : Type} (f : α → D) {k : Nat} : ∀ {l : List (Nat × α)}, k ∉ l.map (·.1) → dval (kd f l) (.inl (k : Int)) = none
  | [], _ => rfl
  | p :: l, h => by
    simp only [List.map_cons, List.mem_cons, not_or] at h
    unfold dval kd
    rw [List.map_cons, List.find?_cons]
    have : decide ((Sum.inl (p.1 : Int) : Key) = Sum.inl (k : Int)) = false := decide_eq_false fun e => h.1 (key_inj.mp e).symm
    rw [this]
    exact kd_none f h.2
theorem kd_some {α : Type} (f : α → D) {k : Nat} : ∀ {l : List (Nat × α)}, k ∈ l.map (·.1) → ∃ v, (k, v) ∈ l ∧ dval (kd f l) (.inl (k : Int)) = some (f v)
  | [], h => by simp at h
  | p :: l, h => by
    unfold dval kd
    rw [List.map_cons, List.find?_cons]
    by_cases e : p.1 = k
    · have : decide ((Sum.inl (p.1 : Int) : Key) = Sum.inl (k : Int)) = true := decide_eq_true (key_inj.mpr e)
      rw [this]
      exact ⟨p.2, by rw [← e]; exact List.mem_cons_self .., rfl⟩
    · have : decide ((Sum.inl (p.1 : Int) : Key) = Sum.inl (k : Int)) = false := decide_eq_false fun e' => e (key_inj.mp e')
      rw [this]
      simp only [List.map_cons, List.mem_cons] at h
      obtain ⟨v, h1, h2⟩ := kd_some f (l := l) (h.resolve_left fun e' => e e'.symm)
      exact ⟨v, List.mem_cons_of_mem _ h1, h2⟩
theorem kd_new {α : Type} (f : α → D) {k : Nat} {v : α} {l : List (Nat × α)} (h : k ∉ l.map (·.1)) : dput (kd f l) (.inl (k : Int)) (f v) = kd f (l ++ [(k, v)]) := by
  unfold dput
  have : ((kd f l).any fun kv => decide (kv.1 = (.inl (k : Int) : Key))) = false := by
    rw [List.any_eq_false]
    intro x hx
    obtain ⟨p, hp, rfl⟩ := List.mem_map.mp hx
    simp only [decide_eq_true_eq]
    intro e
    exact h (by rw [← key_inj.mp e]; exact List.mem_map_of_mem hp)
  rw [this]
  unfold kd
  simp
theorem kd_keys {α : Type} (f : α → D) : ∀ l : List (Nat × α), keysI? (kd f l) = some ((l.map (·.1)).map fun (k : Nat) => (k : Int))
  | [] => rfl
  | p :: l => by
    show (keysI? (kd f l)).map ((p.1 : Int) :: ·) = _
    rw [kd_keys f l]
    rfl
def ledI (ks : List Nat) : List Int := (ks.map fun (k : Nat) => (k : Int)).mergeSort leI
theorem ledI_perm {ks ks' : List Nat} (h : ks.Perm ks') : ledI ks = ledI ks' := by
  refine sorted_eq ((List.mergeSort_perm _ _).trans (h.map _)) ?_
  exact (List.pairwise_mergeSort leI_tr leI_tot _).imp fun h => of_decide_eq_true h
def led (G : Nt) (t : List Nat) (c : Nat) : List Nat := (ledI (laps G t G.n c)).map Int.toNat
theorem led_cast (G : Nt) (t : List Nat) (c : Nat) : (led G t c).map (fun (k : Nat) => (k : Int)) = ledI (laps G t G.n c) := by
  unfold led
  rw [List.map_map]
  have : ∀ x ∈ ledI (laps G t G.n c), ((fun (k : Nat) => (k : Int)) ∘ Int.toNat) x = x := fun x hx => by
    have h1 : x ∈ (laps G t G.n c).map fun (k : Nat) => (k : Int) := (List.mergeSort_perm _ _).mem_iff.mp hx
    obtain ⟨k, _, rfl⟩ := List.mem_map.mp h1
    rfl
  exact (List.map_congr_left this).trans (List.map_id _)
theorem nats_led (G : Nt) (t : List Nat) (c : Nat) : nats (led G t c) = (ledI (laps G t G.n c)).map .int := by
  rw [← led_cast, List.map_map]
  rfl
theorem mem_led {G : Nt} (hG : G.Ok) {t : List Nat} {c : Nat} (hc : c < G.n) {d : Nat} : d ∈ led G t c ↔ Rch G t c d := by
  rw [← (laps_led hG hc).eq d]
  have h1 : (d : Int) ∈ ledI (laps G t G.n c) ↔ (d : Int) ∈ (laps G t G.n c).map fun (k : Nat) => (k : Int) := (List.mergeSort_perm _ _).mem_iff
  have h2 : d ∈ led G t c ↔ (d : Int) ∈ ledI (laps G t G.n c) := by
    rw [← led_cast]
    constructor
    · intro h; exact List.mem_map.mpr ⟨d, h, rfl⟩
    · intro h
      obtain ⟨k, hk, e⟩ := List.mem_map.mp h
      have : k = d := by have e' : (k : Int) = (d : Int) := e; omega
      exact this ▸ hk
  rw [h2, h1]
  constructor
  · intro h
    obtain ⟨k, hk, e⟩ := List.mem_map.mp h
    have : k = d := by have e' : (k : Int) = (d : Int) := e; omega
    exact this ▸ hk
  · intro h; exact List.mem_map.mpr ⟨d, h, rfl⟩
theorem led_len {G : Nt} (hG : G.Ok) {t : List Nat} {c : Nat} (hc : c < G.n) : (led G t c).length ≤ G.n := by
  unfold led ledI
  rw [List.length_map, List.length_mergeSort, List.length_map]
  exact (laps_met G t c G.n).le hG hc
theorem o_sortK {α : Type} (f : α → D) {l : List (Nat × α)} (h : l.length < 64) : dSortK (.dct (kd f l)) = some (.lst ((ledI (l.map (·.1))).map .int)) := by
  show (keysI? (kd f l)).bind _ = _
  rw [kd_keys, Option.bind_some, if_pos (by simpa using h)]
  rfl
def kz (ks : List Nat) : List (Nat × Unit) := ks.map fun k => (k, ())
def f0 : Unit → D := fun _ => .int 0
theorem kz_keys (ks : List Nat) : (kz ks).map (·.1) = ks := by unfold kz; rw [List.map_map]; exact List.map_id _
theorem kz_in (ks : List Nat) (k : Nat) : dKIn (.int k) (.dct (kd f0 (kz ks))) = some (.bl (decide (k ∈ ks))) := by
  show (key? (.int k)).map (fun j => D.bl (dval (kd f0 (kz ks)) j).isSome) = _
  have e : key? (.int (k : Int)) = some (.inl (k : Int)) := rfl
  rw [e, Option.map_some]
  by_cases h : k ∈ ks
  · obtain ⟨v, _, hv⟩ := kd_some f0 (l := kz ks) (k := k) (by rw [kz_keys]; exact h)
    rw [hv, decide_eq_true h]
    rfl
  · rw [kd_none f0 (by rw [kz_keys]; exact h), decide_eq_false h]
    rfl
theorem kz_put (ks : List Nat) (k : Nat) : dput (kd f0 (kz ks)) (.inl (k : Int)) (.int 0) = kd f0 (kz (addN ks k)) := by
  unfold addN
  by_cases h : k ∈ ks
  · rw [if_pos h]
    unfold dput
    have : ((kd f0 (kz ks)).any fun kv => decide (kv.1 = (.inl (k : Int) : Key))) = true := by
      rw [List.any_eq_true]
      exact ⟨(.inl (k : Int), .int 0), List.mem_map.mpr ⟨(k, ()), List.mem_map.mpr ⟨k, h, rfl⟩, rfl⟩, by simp⟩
    rw [if_pos this]
    have : ∀ kv ∈ kd f0 (kz ks), (if kv.1 = (.inl (k : Int) : Key) then (kv.1, D.int 0) else kv) = kv := fun kv hkv => by
      obtain ⟨p, _, rfl⟩ := List.mem_map.mp hkv
      split <;> rfl
    exact (List.map_congr_left this).trans (List.map_id _)
  · rw [if_neg h]
    have := kd_new f0 (k := k) (v := ()) (l := kz ks) (by rw [kz_keys]; exact h)
    unfold f0 at this ⊢
    rw [this]
    unfold kz
    simp
theorem kd_len {α : Type} (f : α → D) (l : List (Nat × α)) : (kd f l).length = l.length := by unfold kd; rw [List.length_map]
theorem ev_law_led {G : Nt} (hG : G.Ok) {t : List Nat} (h : Tn G t) {c : Nat} (hc : c < G.n) : m_law_led [G.d, tD t, .int c] = some (.lst (nats (led G t c))) := by
  refine wD_eq (run_P rfl ?_)
  unfold m_law_ledB
  show wS _ [some (.sh G.d), some (.sh (tD t)), some (.sh (.int c)), none, none, none, none] () _
  have hn := hG.n2
  have hm := hG.m
  rw [w_sSeq, w_sNew, w_eD1]
  simp only [↓w_eC, ↓v2]
  have ek : key? (.int (c : Int)) = some (.inl (c : Int)) := rfl
  rw [ek, wD_some]
  show wS _ [some (.sh G.d), some (.sh (tD t)), some (.sh (.int c)), some (.ow (.dct (kd f0 (kz [c])))), none, none, none] () _
  rw [w_sSeq]
  refine w_sFor ?_
  rw [w_iR1]
  simp only [↓w_e2, ↓w_eC, ↓v0]
  simp only [o_n, wD_some, isI_int]
  rw [if_pos (by omega), wD_some, Int.toNat_natCast, rangeL_nats]
  obtain ⟨zl, za⟩ := o_zip h
  refine ⟨fun k ρ _ => ρ = [some (.sh G.d), some (.sh (tD t)), none, some (.ow (.dct (kd f0 (kz (laps G t k c))))), none, none, none], by rfl, ?_, ?_⟩
  · rintro k d ρ s hd rfl
    obtain ⟨rfl, hk⟩ := take_succ_range hd
    refine ⟨_, rfl, ?_⟩
    show wS _ [some (.sh G.d), some (.sh (tD t)), none, some (.ow (.dct (kd f0 (kz (laps G t k c))))), some (.sh (.int k)), none, none] () _
    refine w_sFor ?_
    rw [w_iZip]
    simp only [↓w_e2, ↓w_eC, ↓v0, ↓v1]
    simp only [o_roads, wD_some]
    have i1 : items? (.tup (G.roads.map dRoad)) = some (G.roads.map dRoad) := rfl
    have i2 : items? (tD t) = some (nats t) := rfl
    rw [i1, wD_some, i2, wD_some]
    have hmet := laps_met G t c k
    refine ⟨fun j ρ _ => ρ = [some (.sh G.d), some (.sh (tD t)), none, some (.ow (.dct (kd f0 (kz (relaxs G t j (laps G t k c)))))), none, none, none], by rfl, ?_, ?_⟩
    · rintro j d ρ s hd rfl
      obtain ⟨hj, rfl⟩ := za j d hd
      refine ⟨_, rfl, ?_⟩
      show wS _ [some (.sh G.d), some (.sh (tD t)), none, some (.ow (.dct (kd f0 (kz (relaxs G t j (laps G t k c)))))), none, some (.sh (dRoad (G.at j))), some (.sh (.int (t.getD j 0 : Nat)))] () _
      rw [w_sIf, w_tE, v_eBR]
      simp only [↓w_e2, ↓v5, ↓v6]
      simp only [o_tail h hj, wD_some, List.getElem?_cons_zero, List.getElem?_cons_succ, slotX_ow, kz_in, isB_bl, decide_eq_true_eq]
      have hm2 := hmet.relaxs j (by omega)
      rw [relaxs_succ]
      unfold relax
      split
      · rename_i hin
        refine i_putK (kvs := kd f0 (kz (relaxs G t j (laps G t k c)))) rfl ?_
        simp only [↓w_eC, ↓w_e2, ↓v5, ↓v6]
        have e1 : dSub (.int 1) (.int (t.getD j 0 : Nat)) = some (.int (1 - (t.getD j 0 : Nat))) := rfl
        simp only [e1, o_head h hj, wD_some]
        refine ⟨by trivial, by trivial, ?_⟩
        have e2 : key? (.int (G.head t j : Int)) = some (.inl (G.head t j : Int)) := rfl
        rw [e2, wD_some, kz_put]
        refine ⟨?_, rfl⟩
        rw [kd_len]
        have := hm2.le hG hc
        show (kz _).length < 16777216
        unfold kz
        rw [List.length_map]
        omega
      · rw [w_sNx]
        rfl
    · rintro ρ s rfl
      show _ = _
      rw [zl, laps_succ]
      rfl
  · rintro ρ s rfl
    show wS _ _ _ _
    rw [List.length_map, List.length_range, w_sRet, w_e1, v_eV]
    show wD (dSortK (.dct (kd f0 (kz (laps G t G.n c))))) _
    have := (laps_met G t c G.n).le hG hc
    rw [o_sortK f0 (by unfold kz; rw [List.length_map]; omega), kz_keys, wD_some, nats_led]
def fw : List Nat → D := fun es => .tup (nats es)
structure Wy (G : Nt) (t : List Nat) (c : Nat) (l : List (Nat × List Nat)) (late : List Nat) : Prop where
  met : Met G t c (l.map (·.1))
  sub : ∀ k ∈ late, k ∈ l.map (·.1)
  cl : ∀ r, r < G.roads.length → G.tail t r ∈ l.map (·.1) → G.tail t r ∉ late → G.head t r ∈ l.map (·.1)
  vl : ∀ p ∈ l, p.2.length + 1 ≤ l.length
structure Wi (G : Nt) (t : List Nat) (c : Nat) (K0 here : List Nat) (l : List (Nat × List Nat)) (late : List Nat) (j : Nat) : Prop where
  met : Met G t c (l.map (·.1))
  ks : l.map (·.1) = K0 ++ late
  hs : ∀ k ∈ here, k ∈ K0
  c1 : ∀ r, r < G.roads.length → G.tail t r ∈ K0 → G.tail t r ∉ here → G.head t r ∈ l.map (·.1)
  c2 : ∀ r, r < j → G.tail t r ∈ here → G.head t r ∈ l.map (·.1)
  vl : ∀ p ∈ l, p.2.length + 1 ≤ l.length
def mu (n : Nat) (l : List (Nat × List Nat)) (late : List Nat) : Nat := 2 * (n - l.length) + if late = [] then 0 else 1
theorem o_neNilL (l : List Nat) : dNe (.lst (nats l)) (.lst []) = some (.bl !l.isEmpty) := by
  have en : nats l = (l.map fun (x : Nat) => (x : Int)).map .int := by unfold nats; rw [List.map_map]; rfl
  rw [en, o_neNil (eqOk_ints _)]
  cases l <;> rfl
theorem o_kget {l : List (Nat × List Nat)} {k : Nat} (h : k ∈ l.map (·.1)) : ∃ es, (k, es) ∈ l ∧ dKGet (.dct (kd fw l)) (.int k) = some (.tup (nats es)) := by
  obtain ⟨v, h1, h2⟩ := kd_some fw h
  exact ⟨v, h1, h2⟩
theorem o_knin (l : List (Nat × List Nat)) (k : Nat) : dKNotIn (.int k) (.dct (kd fw l)) = some (.bl !decide (k ∈ l.map (·.1))) := by
  show (key? (.int k)).map (fun j => D.bl (!(dval (kd fw l) j).isSome)) = _
  have e : key? (.int (k : Int)) = some (.inl (k : Int)) := rfl
  rw [e, Option.map_some]
  by_cases h : k ∈ l.map (·.1)
  · obtain ⟨v, _, hv⟩ := kd_some fw h
    rw [hv, decide_eq_true h]
    rfl
  · rw [kd_none fw h, decide_eq_false h]
    rfl
theorem ev_ways_from {G : Nt} (hG : G.Ok) {t : List Nat} (h : Tn G t) {c : Nat} (hc : c < G.n) : ∃ l : List (Nat × List Nat), m_ways_from [G.d, tD t, .int c] = some (.dct (kd fw l)) ∧ Wy G t c l [] := by
  have key : wD (m_ways_from [G.d, tD t, .int c]) fun d => ∃ l : List (Nat × List Nat), d = .dct (kd fw l) ∧ Wy G t c l [] := by
    refine run_P rfl ?_
    unfold m_ways_fromB
    show wS _ [some (.sh G.d), some (.sh (tD t)), some (.sh (.int c)), none, none, none, none, none, none] () _
    have hn := hG.n2
    have hm := hG.m
    rw [w_sSeq, w_sPar, w_qNew, w_eD1]
    simp only [↓w_eTup0, ↓w_qNew, ↓w_qNil, ↓w_eLst1, ↓v2]
    have ek : key? (.int (c : Int)) = some (.inl (c : Int)) := rfl
    rw [ek, wD_some]
    simp only [List.length_cons, List.length_nil, if_true, wD_some]
    show wS _ [some (.sh G.d), some (.sh (tD t)), some (.sh (.int c)), some (.ow (.dct (kd fw [(c, [])]))), some (.ow (.lst (nats [c]))), none, none, none, none] () _
    rw [w_sSeq]
    have w0 : Wy G t c [(c, [])] [c] := ⟨Met.one G t c, fun k hk => hk, fun r _ h1 h2 => absurd h1 h2, fun p hp => by rw [List.mem_singleton.mp hp]; exact Nat.le_refl _⟩
    refine w_sWh (n := 2 * (G.n - 1) + 1) (fun n ρ _ => ∃ l late, n = mu G.n l late ∧ Wy G t c l late ∧ ρ = [some (.sh G.d), some (.sh (tD t)), none, some (.ow (.dct (kd fw l))), some (.ow (.lst (nats late))), none, none, none, none]) (by omega) ⟨_, _, rfl, w0, rfl⟩ ?_
    rintro n ρ s ⟨l, late, rfl, W, rfl⟩
    rw [w_tE, v_eBL]
    simp only [List.getElem?_cons_zero, List.getElem?_cons_succ, slotX_ow]
    rw [w_eLst0]
    simp only [List.getElem?_cons_zero, List.getElem?_cons_succ, slotX_ow, o_neNilL, wD_some, isB_bl]
    cases late with
    | nil =>
      simp only [List.isEmpty_nil, Bool.not_true, Bool.false_eq_true, if_false]
      show wS _ _ _ _
      rw [w_sRet, v_eV]
      show ∃ l : List (Nat × List Nat), _
      exact ⟨l, rfl, W⟩
    | cons k0 late0 =>
      simp only [List.isEmpty_cons, Bool.not_false, if_true]
      generalize hlate : k0 :: late0 = late at *
      have hne : late ≠ [] := by rw [← hlate]; exact List.cons_ne_nil _ _
      rw [w_sSeq, w_sPar, w_qSh, v_eV]
      simp only [List.getElem?_cons_zero, List.getElem?_cons_succ, slotE_ow]
      rw [w_qNew, w_eLst0, w_qNil]
      simp only [List.length_cons, List.length_nil, if_true, wD_some]
      show wS _ [some (.sh G.d), some (.sh (tD t)), none, some (.ow (.dct (kd fw l))), some (.ow (.lst (nats []))), some (.sh (.lst (nats late))), none, none, none] () _
      refine w_sFor ?_
      rw [w_iR1]
      simp only [↓w_e1, ↓w_e2, ↓w_eC, ↓v0]
      simp only [o_roads, dLen, List.length_map, wD_some, isI_int]
      rw [if_pos (by omega), wD_some, Int.toNat_natCast, rangeL_nats]
      have i0 : Wi G t c (l.map (·.1)) late l [] 0 := ⟨W.met, (List.append_nil _).symm, W.sub, fun r hr h1 h2 => W.cl r hr h1 h2, fun r hr => absurd hr (Nat.not_lt_zero _), W.vl⟩
      refine ⟨fun j ρ _ => ∃ l' late', Wi G t c (l.map (·.1)) late l' late' j ∧ ρ = [some (.sh G.d), some (.sh (tD t)), none, some (.ow (.dct (kd fw l'))), some (.ow (.lst (nats late'))), some (.sh (.lst (nats late))), none, none, none], ⟨l, [], i0, rfl⟩, ?_, ?_⟩
      · rintro j d ρ s hd ⟨l', late', I, rfl⟩
        obtain ⟨rfl, hj⟩ := take_succ_range hd
        refine ⟨_, rfl, ?_⟩
        show wS _ [some (.sh G.d), some (.sh (tD t)), none, some (.ow (.dct (kd fw l'))), some (.ow (.lst (nats late'))), some (.sh (.lst (nats late))), some (.sh (.int j)), none, none] () _
        rw [w_sSeq, w_sPar]
        simp only [↓w_qSh, ↓w_qNil, ↓w_eCallP, ↓w_aCons, ↓w_aNil, ↓v0, ↓v1, ↓v6]
        simp only [ev_tail_of h hj, ev_head_of h hj, wD_some, List.length_cons, List.length_nil, if_true]
        show wS _ [some (.sh G.d), some (.sh (tD t)), none, some (.ow (.dct (kd fw l'))), some (.ow (.lst (nats late'))), some (.sh (.lst (nats late))), some (.sh (.int j)), some (.sh (.int (G.tail t j))), some (.sh (.int (G.head t j)))] () _
        rw [w_sIf, w_tAnd, w_tE]
        simp only [↓w_e2, ↓v5, ↓v7]
        rw [o_inN late _ (.inl rfl), wD_some, isB_bl]
        have done : (G.tail t j ∈ late → G.head t j ∈ l'.map (·.1)) → Wi G t c (l.map (·.1)) late l' late' (j + 1) := fun hh =>
          ⟨I.met, I.ks, I.hs, I.c1, fun r hr h1 => by
            by_cases e : r < j
            · exact I.c2 r e h1
            · have : r = j := by omega
              subst this
              exact hh h1, I.vl⟩
        by_cases ht : G.tail t j ∈ late
        · rw [decide_eq_true ht, if_pos rfl, w_tE, v_eBR]
          simp only [↓v8]
          simp only [List.getElem?_cons_zero, List.getElem?_cons_succ, slotX_ow, o_knin, wD_some, isB_bl]
          by_cases hh : G.head t j ∈ l'.map (·.1)
          · rw [decide_eq_true hh]
            simp only [Bool.not_true, Bool.false_eq_true, if_false]
            rw [w_sNx]
            exact ⟨l', late', done fun _ => hh, rfl⟩
          · rw [decide_eq_false hh]
            simp only [Bool.not_false, if_true]
            have htk : G.tail t j ∈ l'.map (·.1) := by rw [I.ks]; exact List.mem_append_left _ (I.hs _ ht)
            obtain ⟨es, hes, eg⟩ := o_kget htk
            have hle := I.met.le hG hc
            rw [List.length_map] at hle
            have hvl : es.length + 1 ≤ l'.length := I.vl _ hes
            rw [w_sSeq]
            refine i_putK (kvs := kd fw l') rfl ?_
            rw [w_eTup, w_aStar, v_eBL]
            simp only [List.getElem?_cons_zero, List.getElem?_cons_succ, slotX_ow]
            simp only [↓w_aCons, ↓w_aNil, ↓v6, ↓v7]
            simp only [List.getElem?_cons_zero, List.getElem?_cons_succ, slotX_ow, eg, wD_some]
            have i3 : items? (.tup (nats es)) = some (nats es) := rfl
            have en : nats es ++ [D.int j] = nats (es ++ [j]) := by unfold nats; rw [List.map_append]; rfl
            rw [i3, wD_some, en, if_pos (by show (nats _).length ≤ 16777216; rw [List.length_map, List.length_append]; simp; omega), wD_some]
            refine ⟨by trivial, ?_⟩
            rw [v8]
            have e2 : key? (.int (G.head t j : Int)) = some (.inl (G.head t j : Int)) := rfl
            refine ⟨rfl, ?_⟩
            rw [e2, wD_some]
            have e3 := kd_new fw (v := es ++ [j]) hh
            rw [show (D.tup (nats (es ++ [j]))) = fw (es ++ [j]) from rfl, e3]
            refine ⟨by rw [kd_len]; show _ < 16777216; omega, ?_⟩
            show wS _ [some (.sh G.d), some (.sh (tD t)), none, some (.ow (.dct (kd fw (l' ++ [(G.head t j, es ++ [j])])))), some (.ow (.lst (nats late'))), some (.sh (.lst (nats late))), some (.sh (.int j)), some (.sh (.int (G.tail t j))), some (.sh (.int (G.head t j)))] () _
            rw [w_sDrop]
            refine w_eApp (ds := nats late') rfl ?_
            rw [v8]
            have en2 : nats late' ++ [D.int (G.head t j)] = nats (late' ++ [G.head t j]) := by unfold nats; rw [List.map_append]; rfl
            have hll : late'.length ≤ l'.length := by
              have := congrArg List.length I.ks
              rw [List.length_map, List.length_append] at this
              omega
            refine ⟨rfl, by show (nats _).length < 16777216; rw [List.length_map]; omega, ?_⟩
            rw [en2]
            refine ⟨l' ++ [(G.head t j, es ++ [j])], late' ++ [G.head t j], ?_, rfl⟩
            have ekeys : (l' ++ [(G.head t j, es ++ [j])]).map (·.1) = l'.map (·.1) ++ [G.head t j] := by rw [List.map_append]; rfl
            refine ⟨?_, ?_, I.hs, fun r hr h1 h2 => ?_, fun r hr h1 => ?_, fun p hp => ?_⟩
            · rw [ekeys]
              exact I.met.snoc (.step (I.met.rc _ htk) hj) hh
            · rw [ekeys, I.ks, List.append_assoc]
            · rw [ekeys]
              exact List.mem_append_left _ (I.c1 r hr h1 h2)
            · rw [ekeys]
              by_cases e : r < j
              · exact List.mem_append_left _ (I.c2 r e h1)
              · have : r = j := by omega
                subst this
                exact List.mem_append_right _ (List.mem_singleton.mpr rfl)
            · rw [List.length_append, List.length_cons, List.length_nil]
              rcases List.mem_append.mp hp with hp | hp
              · have := I.vl p hp; omega
              · rw [List.mem_singleton.mp hp]
                show (es ++ [j]).length + 1 ≤ _
                rw [List.length_append, List.length_cons, List.length_nil]
                omega
        · rw [decide_eq_false ht, if_neg Bool.false_ne_true]
          simp only [Bool.false_eq_true, if_false]
          rw [w_sNx]
          exact ⟨l', late', done fun z => absurd z ht, rfl⟩
      · rintro ρ s ⟨l', late', I, rfl⟩
        rw [List.length_map, List.length_range] at I
        have hle := I.met.le hG hc
        rw [List.length_map] at hle
        have hkk := congrArg List.length I.ks
        rw [List.length_map, List.length_append, List.length_map] at hkk
        refine ⟨mu G.n l' late', ?_, l', late', rfl, ⟨I.met, fun k hk => by rw [I.ks]; exact List.mem_append_right _ hk, fun r hr h1 h2 => ?_, I.vl⟩, rfl⟩
        · unfold mu
          rw [if_neg hne]
          by_cases e : late' = []
          · subst e
            rw [if_pos rfl]
            simp only [List.length_nil] at hkk
            omega
          · rw [if_neg e]
            have : 0 < late'.length := List.length_pos_iff.mpr e
            omega
        · rw [I.ks] at h1
          rcases List.mem_append.mp h1 with q | q
          · by_cases hh : G.tail t r ∈ late
            · exact I.c2 r hr hh
            · exact I.c1 r hr q hh
          · exact absurd q h2
  obtain ⟨d, h1, l, rfl, W⟩ := wD_ex key
  exact ⟨l, h1, W⟩
theorem ev_led_from {G : Nt} (hG : G.Ok) {t : List Nat} (h : Tn G t) {c : Nat} (hc : c < G.n) : m_led_from [G.d, tD t, .int c] = some (tD (led G t c)) := by
  refine wD_eq (run_P rfl ?_)
  unfold m_led_fromB
  show wS _ [some (.sh G.d), some (.sh (tD t)), some (.sh (.int c))] () _
  obtain ⟨l, e, W⟩ := ev_ways_from hG h hc
  have hle := W.met.le hG hc
  have hn := hG.n2
  rw [List.length_map] at hle
  rw [w_sRet]
  simp only [↓w_e1, ↓w_eCallP, ↓w_aCons, ↓w_aNil, ↓v0, ↓v1, ↓v2]
  simp only [e, wD_some]
  rw [o_sortK fw (by omega), wD_some]
  have L : Led G t c (l.map (·.1)) := .of W.met.nd W.met.hc W.met.rc fun r hr h1 => W.cl r hr h1 (by simp)
  rw [ledI_perm (L.perm (laps_led hG hc)), ← nats_led]
  rfl
end Fw
/-! ## T5 -/
set_option linter.all false
set_option maxRecDepth 100000
set_option maxHeartbeats 1000000
namespace Fw
open PySem PySem.Spec PyProof.Rows L2
def lots (k : Nat) : List (List Nat) := (List.range k).foldl (fun found c => found ++ found.map (· ++ [c])) [[]]
theorem lots_succ (k : Nat) : lots (k + 1) = lots k ++ (lots k).map (· ++ [k]) := foldl_range _ _ _
theorem lots_ok : ∀ {k : Nat} {lot : List Nat}, lot ∈ lots k → lot.Nodup ∧ ∀ x ∈ lot, x < k
  | 0, lot, h => by
    have : lot = [] := by simpa [lots] using h
    subst this
    exact ⟨List.nodup_nil, fun x hx => by simp at hx⟩
  | k + 1, lot, h => by
    rw [lots_succ] at h
    rcases List.mem_append.mp h with h | h
    · obtain ⟨a, b⟩ := lots_ok h
      exact ⟨a, fun x hx => by have := b x hx; omega⟩
    · obtain ⟨l, hl, rfl⟩ := List.mem_map.mp h
      obtain ⟨a, b⟩ := lots_ok hl
      refine ⟨nodup_snoc a fun hk => by have := b k hk; omega, fun x hx => ?_⟩
      rcases List.mem_append.mp hx with hx | hx
      · have := b x hx; omega
      · rw [List.mem_singleton.mp hx]; omega
theorem lots_len : ∀ k, (lots k).length = 2 ^ k
  | 0 => rfl
  | k + 1 => by rw [lots_succ, List.length_append, List.length_map, lots_len k, Nat.pow_succ]; omega
theorem o_addLL {ds es : List D} (h : ds.length + es.length ≤ 16777216) : dAdd (.lst ds) (.lst es) = some (.lst (ds ++ es)) := by
  show (if ds.length + es.length ≤ LIM then some (D.lst (ds ++ es)) else none) = _
  rw [if_pos h]
theorem ev_all_lots {n : Nat} (hn : n ≤ 7) : m_law_all_lots [.int n] = some (.lst ((lots n).map tD)) := by
  refine wD_eq (run_P rfl ?_)
  unfold m_law_all_lotsB
  show wS _ [some (.sh (.int n)), none, none, none] () _
  rw [w_sSeq, w_sAsg, w_eLst1, w_eTup0]
  show wS _ [some (.sh (.int n)), some (.sh (.lst ((lots 0).map tD))), none, none] () _
  rw [w_sSeq]
  refine w_sFor ?_
  rw [w_iR1]
  simp only [↓v0, isI_int]
  rw [if_pos (by omega), wD_some, Int.toNat_natCast, rangeL_nats]
  refine ⟨fun k ρ _ => ρ = [none, some (.sh (.lst ((lots k).map tD))), none, none], rfl, ?_, ?_⟩
  · rintro k d ρ s hd rfl
    obtain ⟨rfl, hk⟩ := take_succ_range hd
    refine ⟨_, rfl, ?_⟩
    show wS _ [none, some (.sh (.lst ((lots k).map tD))), some (.sh (.int k)), none] () _
    rw [w_sAsg, w_e2, v1]
    refine w_lc (I := fun _ => True) (P := fun pre acc => ∃ ls : List (List Nat), pre = ls.map tD ∧ acc = (ls.map (· ++ [k])).map tD) ?_
    rw [w_iE, v1]
    refine ⟨rfl, trivial, rfl, ⟨[], rfl, rfl⟩, fun pre d post acc s e hp _ => ?_, fun acc s hp _ => ?_⟩
    · obtain ⟨ls, rfl, rfl⟩ := hp
      have hd : d ∈ (lots k).map tD := by rw [e]; simp
      obtain ⟨l, hl, rfl⟩ := List.mem_map.mp hd
      refine ⟨_, rfl, ?_⟩
      rw [w_tYes, if_pos rfl]
      simp only [wipeE, List.set]
      simp only [↓w_e2, ↓w_eTup1, ↓v2, ↓v3]
      have hlen := nodup_le (lots_ok hl).1 (lots_ok hl).2
      have e1 : dAdd (tD l) (.tup [.int k]) = some (tD (l ++ [k])) := by
        show (if (nats l).length + 1 ≤ LIM then some (D.tup (nats l ++ [.int k])) else none) = _
        rw [if_pos (by show _ ≤ 16777216; rw [List.length_map]; omega)]
        unfold tD nats
        rw [List.map_append]
        rfl
      rw [e1, wD_some]
      exact ⟨⟨ls ++ [l], by simp, by simp⟩, trivial, rfl⟩
    · obtain ⟨ls, h1, rfl⟩ := hp
      have hp2 : 2 ^ k ≤ 2 ^ 7 := Nat.pow_le_pow_right (by decide) (by omega)
      have hll : ls.length = (lots k).length := by
        have := congrArg List.length h1
        rw [List.length_map, List.length_map] at this
        exact this.symm
      have els : ls = lots k := by
        have hinj : ∀ a b : List Nat, tD a = tD b → a = b := fun a b h => by
          unfold tD at h
          exact map_nats_inj (D.tup.inj h)
        exact (map_inj hinj h1).symm
      rw [els]
      rw [o_addLL (by rw [List.length_map, List.length_map, List.length_map, lots_len]; omega), wD_some, ← List.map_append, ← lots_succ]
      rfl
  · rintro ρ s rfl
    rw [List.length_map, List.length_range, w_sRet, v1]
def inn (G : Nt) (lot : List Nat) (k : Nat) : List Nat := (List.range k).filter fun r => decide ((G.at r).1 ∈ lot) && decide ((G.at r).2 ∈ lot)
theorem ev_within {G : Nt} {lot : List Nat} : m_roads_within [G.d, tD lot] = some (.int (inn G lot G.roads.length).length) := by
  refine wD_eq (run_P rfl ?_)
  unfold m_roads_withinB
  show wS _ [some (.sh G.d), some (.sh (tD lot)), none, none] () _
  rw [w_sRet, w_e1]
  refine w_lc (I := fun _ => True) (P := fun pre acc => acc = (inn G lot pre.length).map fun _ => D.int 1) ?_
  rw [w_iE]
  simp only [↓w_e2, ↓w_eC, ↓v0]
  rw [o_roads, wD_some]
  have i1 : items? (.tup (G.roads.map dRoad)) = some (G.roads.map dRoad) := rfl
  rw [i1, wD_some]
  refine ⟨by trivial, trivial, by trivial, by trivial, fun pre d post acc s e hp _ => ?_, fun acc s hp _ => ?_⟩
  · have hd : (G.roads.map dRoad)[pre.length]? = some d := by rw [e]; simp
    have hl : pre.length < G.roads.length := by
      have := (List.getElem?_eq_some_iff.mp hd).1
      simpa using this
    have e2 := o_road hl
    rw [o_ixT, hd] at e2
    cases Option.some.inj e2
    refine ⟨_, rfl, ?_⟩
    show wT _ [some (.sh G.d), some (.sh (tD lot)), some (.sh (.int (G.at pre.length).1)), some (.sh (.int (G.at pre.length).2))] _ _
    have step : inn G lot (pre ++ [dRoad (G.at pre.length)]).length = if (decide ((G.at pre.length).1 ∈ lot) && decide ((G.at pre.length).2 ∈ lot)) = true then inn G lot pre.length ++ [pre.length] else inn G lot pre.length := by
      unfold inn
      rw [List.length_append, List.length_cons, List.length_nil, List.range_succ, List.filter_append, List.filter_cons]
      split <;> simp
    rw [w_tAnd, w_tE]
    simp only [↓w_e2, ↓v1, ↓v2]
    rw [o_inN lot (tD lot) (.inr rfl), wD_some, isB_bl]
    by_cases h1 : (G.at pre.length).1 ∈ lot
    · rw [decide_eq_true h1, if_pos rfl, w_tE]
      simp only [↓w_e2, ↓v1, ↓v3]
      rw [o_inN lot (tD lot) (.inr rfl), wD_some, isB_bl]
      by_cases h2 : (G.at pre.length).2 ∈ lot
      · rw [decide_eq_true h2, if_pos rfl]
        refine ⟨?_, trivial, rfl⟩
        rw [step, decide_eq_true h1, decide_eq_true h2, Bool.and_true, if_pos rfl, List.map_append, hp]
        rfl
      · rw [decide_eq_false h2, if_neg Bool.false_ne_true]
        refine ⟨?_, trivial, rfl⟩
        rw [step, decide_eq_false h2, Bool.and_false, if_neg Bool.false_ne_true, hp]
    · rw [decide_eq_false h1, if_neg Bool.false_ne_true]
      simp only [Bool.false_eq_true, if_false]
      refine ⟨?_, trivial, rfl⟩
      rw [step, decide_eq_false h1, Bool.false_and, if_neg Bool.false_ne_true, hp]
  · rw [hp]
    show wD (some (D.int _)) _
    rw [wD_some, List.length_map, List.length_map]
theorem within_eq : m_law_within = m_roads_within := rfl
def Nt.sumO (G : Nt) (t lot : List Nat) : Nat := (lot.map (G.cnt t G.roads.length)).sum
theorem filter_le {α : Type} {p q : α → Bool} : ∀ {l : List α}, (∀ x ∈ l, p x = true → q x = true) → (l.filter p).length ≤ (l.filter q).length ∧ ((l.filter p).length = (l.filter q).length ↔ ∀ x ∈ l, q x = true → p x = true)
  | [], _ => ⟨Nat.le_refl _, fun _ x hx => by simp at hx, fun _ => rfl⟩
  | x :: l, h => by
    obtain ⟨a, b⟩ := filter_le (p := p) (q := q) (l := l) fun y hy => h y (List.mem_cons_of_mem _ hy)
    have hx := h x (List.mem_cons_self ..)
    rw [List.filter_cons, List.filter_cons]
    cases hp : p x with
    | true =>
      rw [hx hp, if_pos rfl, if_pos rfl, List.length_cons, List.length_cons]
      refine ⟨by omega, fun e y hy hq => ?_, fun e => ?_⟩
      · rcases List.mem_cons.mp hy with rfl | hy
        · exact hp
        · exact b.mp (by omega) y hy hq
      · have := b.mpr fun y hy hq => e y (List.mem_cons_of_mem _ hy) hq
        omega
    | false =>
      cases hq : q x with
      | true =>
        rw [if_neg Bool.false_ne_true, if_pos rfl, List.length_cons]
        refine ⟨by omega, fun e => by omega, fun e => ?_⟩
        have := e x (List.mem_cons_self ..) hq
        rw [hp] at this
        cases this
      | false =>
        rw [if_neg Bool.false_ne_true, if_neg Bool.false_ne_true]
        refine ⟨a, fun e y hy hq' => ?_, fun e => b.mpr fun y hy hq' => e y (List.mem_cons_of_mem _ hy) hq'⟩
        rcases List.mem_cons.mp hy with rfl | hy
        · rw [hq] at hq'; cases hq'
        · exact b.mp e y hy hq'
theorem lot_le {G : Nt} {t lot : List Nat} (nd : lot.Nodup) : (inn G lot G.roads.length).length ≤ G.sumO t lot ∧ ((inn G lot G.roads.length).length = G.sumO t lot ↔ Shut G t lot) := by
  unfold Nt.sumO
  rw [sum_lot nd]
  unfold inn
  have side : ∀ r, (G.tail t r = (G.at r).1 ∧ G.head t r = (G.at r).2) ∨ (G.tail t r = (G.at r).2 ∧ G.head t r = (G.at r).1) := fun r => by
    unfold Nt.tail Nt.head
    split
    · exact .inl ⟨rfl, rfl⟩
    · exact .inr ⟨rfl, rfl⟩
  obtain ⟨a, b⟩ := filter_le (p := fun r => decide ((G.at r).1 ∈ lot) && decide ((G.at r).2 ∈ lot)) (q := fun r => decide (G.tail t r ∈ lot)) (l := List.range G.roads.length) fun r _ h => by
    simp only [Bool.and_eq_true, decide_eq_true_eq] at h ⊢
    rcases side r with ⟨e, _⟩ | ⟨e, _⟩ <;> rw [e]
    · exact h.1
    · exact h.2
  refine ⟨a, b.trans ⟨fun h r hr ht => ?_, fun h r hr ht => ?_⟩⟩
  · have := h r (List.mem_range.mpr hr) (decide_eq_true ht)
    simp only [Bool.and_eq_true, decide_eq_true_eq] at this
    rcases side r with ⟨_, e⟩ | ⟨_, e⟩ <;> rw [e]
    · exact this.2
    · exact this.1
  · have ht' : G.tail t r ∈ lot := of_decide_eq_true ht
    have hh := h r (List.mem_range.mp hr) ht'
    simp only [Bool.and_eq_true, decide_eq_true_eq]
    rcases side r with ⟨e1, e2⟩ | ⟨e1, e2⟩ <;> rw [e1] at ht' <;> rw [e2] at hh
    · exact ⟨ht', hh⟩
    · exact ⟨hh, ht'⟩
def isShut (G : Nt) (t lot : List Nat) : Bool := lot.all fun c => (led G t c).all fun d => decide (d ∈ lot)
theorem isShut_iff {G : Nt} (hG : G.Ok) {t lot : List Nat} (hl : ∀ x ∈ lot, x < G.n) : isShut G t lot = true ↔ Shut G t lot := by
  unfold isShut
  rw [List.all_eq_true]
  constructor
  · intro h r hr ht
    have h1 := h _ ht
    rw [List.all_eq_true] at h1
    exact of_decide_eq_true (h1 _ ((mem_led hG (hl _ ht)).mpr (.step .refl hr)))
  · intro h c hc
    rw [List.all_eq_true]
    intro d hd
    exact decide_eq_true (shut_all h hc ((mem_led hG (hl c hc)).mp hd))
theorem many_shut {G : Nt} (hG : G.Ok) {t lot : List Nat} (nd : lot.Nodup) (hl : ∀ x ∈ lot, x < G.n) : decide ((inn G lot G.roads.length).length = G.sumO t lot) = isShut G t lot := by
  have h1 := (lot_le (G := G) (t := t) nd).2
  have h2 := isShut_iff hG (t := t) hl
  rw [Bool.eq_iff_iff, decide_eq_true_eq, h1, h2]
theorem frame_ev {a : Addr} {most rs : Nat} {s : Src} {Q : D × Src → Prop} (hs : s.addr = a) (hm : 1 ≤ most ∧ most ≤ 7) (hr : 1 ≤ rs ∧ rs ≤ 30)
    (q : ∀ (G : Nt) s', s'.addr = a → G.Ok → G.n ≤ 7 → Q (G.d, s')) : wD (m_law_frame [.obj a, .int most, .int rs] s) Q := by
  have key : wD (m_law_frame [.obj a, .int most, .int rs] s) fun p => Q (p.1, p.2) := by
    refine run_C (Q := fun d s' => Q (d, s')) rfl ?_
    unfold m_law_frameB
    show wS _ [some (.sh (.obj a)), some (.sh (.int most)), some (.sh (.int rs)), none, none, none, none, none] s _
    rw [w_sSeq, w_sPar]
    simp only [↓w_qSh, ↓w_qNew, ↓w_qNil, ↓w_e2, ↓w_eC, ↓w_eCall, ↓w_aCons, ↓w_aNil, ↓w_eLst0, ↓v0, ↓v1]
    refine pick_n hs hm.1 (by omega) fun n0 s1 hs1 hn0 => ?_
    have e1 : dAdd (.int 1) (.int (n0 : Int)) = some (.int ((n0 + 1 : Nat) : Int)) := by
      show some (D.int (1 + (n0 : Int))) = _
      congr 2
      omega
    simp only [e1, wD_some, List.length_cons, List.length_nil, if_true]
    generalize hn : n0 + 1 = n
    show wS _ [some (.sh (.obj a)), some (.sh (.int most)), some (.sh (.int rs)), some (.sh (.int n)), some (.ow (.lst [])), none, none, none] s1 _
    rw [w_sSeq]
    refine w_sFor ?_
    rw [w_iR1]
    simp only [↓w_e2, ↓w_eC, ↓w_eCall, ↓w_aCons, ↓w_aNil, ↓v0, ↓v2]
    refine pick_n hs1 hr.1 (by omega) fun m0 s2 hs2 hm0 => ?_
    obtain ⟨m1, hm1⟩ : ∃ m1, m1 = m0 + 1 := ⟨_, rfl⟩
    have e2 : dAdd (.int 1) (.int (m0 : Int)) = some (.int (m1 : Int)) := by
      show some (D.int (1 + (m0 : Int))) = _
      congr 2
      omega
    simp only [e2, wD_some, isI_int]
    rw [if_pos (by omega), wD_some, Int.toNat_natCast, rangeL_nats]
    refine ⟨fun k ρ s => s.addr = a ∧ ∃ R : List (Nat × Nat), R.length = k ∧ (∀ p ∈ R, p.1 < n ∧ p.2 < n) ∧ ρ = [some (.sh (.obj a)), none, none, some (.sh (.int n)), some (.ow (.lst (R.map dRoad))), none, none, none], ⟨hs2, [], rfl, fun p hp => by simp at hp, rfl⟩, ?_, ?_⟩
    · rintro k d ρ s hd ⟨hs, R, hR, hRn, rfl⟩
      obtain ⟨rfl, hk⟩ := take_succ_range hd
      refine ⟨_, rfl, ?_⟩
      show wS _ [some (.sh (.obj a)), none, none, some (.sh (.int n)), some (.ow (.lst (R.map dRoad))), some (.sh (.int k)), none, none] s _
      rw [w_sSeq, w_sPar]
      simp only [↓w_qSh, ↓w_qNil, ↓w_eCall, ↓w_aCons, ↓w_aNil, ↓v0, ↓v3]
      refine pick_n hs (by omega) (by omega) fun x s3 hs3 hx => ?_
      refine pick_n hs3 (by omega) (by omega) fun y s4 hs4 hy => ?_
      simp only [List.length_cons, List.length_nil, if_true, wD_some]
      show wS _ [some (.sh (.obj a)), none, none, some (.sh (.int n)), some (.ow (.lst (R.map dRoad))), some (.sh (.int k)), some (.sh (.int x)), some (.sh (.int y))] s4 _
      refine w_seq (fun ρ s => s.addr = a ∧ ∃ y : Nat, y < n ∧ ρ = [some (.sh (.obj a)), none, none, some (.sh (.int n)), some (.ow (.lst (R.map dRoad))), some (.sh (.int k)), some (.sh (.int x)), some (.sh (.int y))]) (fun Q' hn' _ _ _ => ?_) ?_
      · rw [w_sAsg, w_eIf, w_tAnd, w_tE]
        simp only [↓w_e2, ↓v6, ↓v7]
        rw [o_eqI, wD_some, isB_bl]
        have other : Q' .nx [some (.sh (.obj a)), none, none, some (.sh (.int n)), some (.ow (.lst (R.map dRoad))), some (.sh (.int k)), some (.sh (.int x)), some (.sh (.int y))] s4 := hn' _ _ ⟨hs4, y, hy, rfl⟩
        split
        · rw [w_tE]
          simp only [↓w_e2, ↓w_eC, ↓w_eCall, ↓w_aCons, ↓w_aNil, ↓v0]
          refine pick_ev hs4 (by decide) fun z s5 hs5 _ _ => ?_
          simp only [dGt, wD_some, isB_bl]
          split
          · simp only [↓w_e2, ↓w_e1, ↓w_eC, ↓w_eCall, ↓w_aCons, ↓w_aNil, ↓v0, ↓v3, ↓v6]
            have e3 : dAdd (.int (x : Int)) (.int 1) = some (.int ((x + 1 : Nat) : Int)) := rfl
            simp only [e3, wD_some]
            refine pick_n hs5 (by omega) (by omega) fun z2 s6 hs6 hz2 => ?_
            have e4 : dAdd (.int ((x + 1 : Nat) : Int)) (.int (z2 : Int)) = some (.int ((x + 1 + z2 : Nat) : Int)) := rfl
            have e5 : dInt (.int ((x + 1 + z2 : Nat) : Int)) = some (.int ((x + 1 + z2 : Nat) : Int)) := rfl
            have e6 : dMod (.int ((x + 1 + z2 : Nat) : Int)) (.int (n : Int)) = some (.int (((x + 1 + z2) % n : Nat) : Int)) := by
              show (if (0 : Int) < (n : Int) then some (D.int (((x + 1 + z2 : Nat) : Int) % (n : Int))) else none) = _
              rw [if_pos (by omega), Int.natCast_emod]
            simp only [e4, e5, e6, wD_some]
            exact hn' _ _ ⟨hs6, (x + 1 + z2) % n, Nat.mod_lt _ (by omega), rfl⟩
          · rw [v7]
            exact hn' _ _ ⟨hs5, y, hy, rfl⟩
        · simp only [Bool.false_eq_true, if_false]
          exact other
      · rintro ρ s ⟨hs, y, hy, rfl⟩
        rw [w_sDrop]
        refine w_eApp (ds := R.map dRoad) rfl ?_
        simp only [↓w_eTup2, ↓v6, ↓v7]
        refine ⟨by trivial, by show _ < 16777216; rw [List.length_map]; omega, hs, R ++ [(x, y)], by simp [hR], fun p hp => ?_, ?_⟩
        · rcases List.mem_append.mp hp with hp | hp
          · exact hRn p hp
          · rw [List.mem_singleton.mp hp]; exact ⟨hx, hy⟩
        · rw [List.map_append]
          rfl
    · rintro ρ s ⟨hs, R, hR, hRn, rfl⟩
      rw [List.length_map, List.length_range] at hR
      show wS _ [some (.sh (.obj a)), none, none, some (.sh (.int n)), some (.ow (.lst (R.map dRoad))), none, none, none] s _
      rw [w_sRet, w_eTup2]
      simp only [↓v3]
      rw [w_e1, v_eV]
      show Q (Nt.d ⟨n, R⟩, s)
      refine q ⟨n, R⟩ s hs ⟨?_, ?_, ?_, ?_, hRn⟩ ?_
      · show 1 ≤ n; omega
      · show n ≤ 20; omega
      · show 1 ≤ R.length; omega
      · show R.length ≤ 40; omega
      · show n ≤ 7; omega
  exact key
theorem turning_ev {a : Addr} {G : Nt} {s : Src} {Q : D × Src → Prop} (hs : s.addr = a) (q : ∀ t s', s'.addr = a → Tn G t → Q (tD t, s')) : wD (m_law_turning [.obj a, G.d] s) Q := by
  have key : wD (m_law_turning [.obj a, G.d] s) fun p => Q (p.1, p.2) := by
    refine run_C (Q := fun d s' => Q (d, s')) rfl ?_
    unfold m_law_turningB
    show wS _ [some (.sh (.obj a)), some (.sh G.d), none] s _
    rw [w_sRet, w_e1]
    refine w_lc (I := fun s => s.addr = a) (P := fun pre acc => ∃ t : List Nat, acc = nats t ∧ t.length = pre.length ∧ ∀ x ∈ t, x ≤ 1) ?_
    rw [w_iE]
    simp only [↓w_e2, ↓w_eC, ↓v1]
    rw [o_roads, wD_some]
    have i1 : items? (.tup (G.roads.map dRoad)) = some (G.roads.map dRoad) := rfl
    rw [i1, wD_some]
    refine ⟨by trivial, hs, by trivial, ⟨[], rfl, rfl, fun x hx => by simp at hx⟩, fun pre d post acc s e hp hs => ?_, fun acc s hp hs => ?_⟩
    · obtain ⟨t, rfl, h1, h2⟩ := hp
      refine ⟨_, rfl, ?_⟩
      rw [w_tYes, if_pos rfl]
      simp only [wipeE, List.set]
      simp only [↓w_eCall, ↓w_aCons, ↓w_aNil, ↓w_eC, ↓v0]
      refine pick_n (m := 2) hs (by decide) (by decide) fun k s' hs' hk => ?_
      refine ⟨⟨t ++ [k], by unfold nats; rw [List.map_append]; rfl, by simp [h1], fun x hx => ?_⟩, hs', rfl⟩
      rcases List.mem_append.mp hx with hx | hx
      · exact h2 x hx
      · rw [List.mem_singleton.mp hx]; omega
    · obtain ⟨t, rfl, h1, h2⟩ := hp
      exact q t s hs ⟨by rw [h1, List.length_map], h2⟩
  exact key
end Fw
/-! ## U1 -/
set_option linter.all false
set_option maxRecDepth 100000
set_option maxHeartbeats 1000000
/-! Which values are lots, rings. -/
namespace Fw
open PySem PySem.Spec PyProof.Rows L2
def rngB (b : Int) : D → Bool
  | .int i => decide (0 ≤ i) && decide (i < b)
  | _ => false
section
variable {S : Type} {ρ : Env} {s : S} {Q : D → Env → S → Prop}
theorem rng_ev {i : Nat} {c : E S} {b : Int} {d : D} (hi : ρ[i]? = some (some (.sh d))) (hn : nob d = true) (hc : ∀ Q : D → Env → S → Prop, wE c ρ s Q = Q (.int b) ρ s) :
    wE (eAnd (e1 (dIsi "int") (eV i)) (eAnd (e1 dNot (e1 (dIsi "bool") (eV i))) (eChain dLe dLt (eC (.int 0)) (eV i) c))) ρ s Q = Q (.bl (rngB b d)) ρ s := by
  rw [w_eAnd, w_e1, w_eV hi]
  cases d with
  | int k =>
    have a1 : dIsi "int" (.int k) = some (.bl true) := rfl
    have a2 : dIsi "bool" (.int k) = some (.bl false) := rfl
    have a3 : dNot (.bl false) = some (.bl true) := rfl
    rw [a1, wD_some, isB_bl, if_pos rfl, w_eAnd, w_e1, w_e1, w_eV hi, a2, wD_some, a3, wD_some, isB_bl, if_pos rfl, w_eChain, w_eC, w_eV hi]
    have a4 : dLe (.int 0) (.int k) = some (.bl (decide (0 ≤ k))) := rfl
    rw [a4, wD_some, isB_bl]
    by_cases h : 0 ≤ k
    · rw [decide_eq_true h, if_pos rfl, hc]
      have a5 : dLt (.int k) (.int b) = some (.bl (decide (k < b))) := rfl
      rw [a5, wD_some]
      show _ = Q (.bl (decide (0 ≤ k) && decide (k < b))) ρ s
      rw [decide_eq_true h, Bool.true_and]
    · rw [decide_eq_false h, if_neg Bool.false_ne_true]
      show _ = Q (.bl (decide (0 ≤ k) && decide (k < b))) ρ s
      rw [decide_eq_false h, Bool.false_and]
  | bl k =>
    have a1 : dIsi "int" (.bl k) = some (.bl true) := rfl
    have a2 : dIsi "bool" (.bl k) = some (.bl true) := rfl
    have a3 : dNot (.bl true) = some (.bl false) := rfl
    rw [a1, wD_some, isB_bl, if_pos rfl, w_eAnd, w_e1, w_e1, w_eV hi, a2, wD_some, a3, wD_some, isB_bl, if_neg Bool.false_ne_true]
    rfl
  | obj a => exact absurd hn (by simp [nob])
  | _ => rfl
/-- not an integer in the range -/
theorem nrng_ev {i : Nat} {c : E Unit} {b : Int} {d : D} {ρ : Env} {Q : Bool → Env → Unit → Prop} (hi : ρ[i]? = some (some (.sh d))) (hn : nob d = true) (hc : ∀ Q : D → Env → Unit → Prop, wE c ρ () Q = Q (.int b) ρ ()) :
    wT (Fw.tOr (Fw.tNot (tE (eCallP m_law_is_int (aCons (eV i) aNil)))) (Fw.tNot (tE (eChain dLe dLt (eC (.int 0)) (eV i) c)))) ρ () Q = Q (!rngB b d) ρ () := by
  rw [w_tOr, w_tNot, w_tE, w_eCallP, w_aCons, w_eV hi, w_aNil, ev_is_int hn, wD_some, isB_bl]
  cases d with
  | int k =>
    have a0 : isN (.int k) = true := rfl
    rw [a0]
    simp only [Bool.not_true, Bool.false_eq_true, if_false]
    rw [w_tNot, w_tE, w_eChain, w_eC, w_eV hi]
    have a4 : dLe (.int 0) (.int k) = some (.bl (decide (0 ≤ k))) := rfl
    rw [a4, wD_some, isB_bl]
    by_cases h : 0 ≤ k
    · rw [decide_eq_true h, if_pos rfl, hc]
      have a5 : dLt (.int k) (.int b) = some (.bl (decide (k < b))) := rfl
      rw [a5, wD_some, isB_bl]
      show _ = Q (!(decide (0 ≤ k) && decide (k < b))) ρ ()
      rw [decide_eq_true h, Bool.true_and]
    · rw [decide_eq_false h, if_neg Bool.false_ne_true, isB_bl]
      show _ = Q (!(decide (0 ≤ k) && decide (k < b))) ρ ()
      rw [decide_eq_false h, Bool.false_and]
  | obj a => exact absurd hn (by simp [nob])
  | _ => rfl
end
theorem nats_rng {b : Nat} : ∀ {ds : List D}, ds.all (rngB b) = true → ∃ ls : List Nat, ds = nats ls ∧ ∀ x ∈ ls, x < b
  | [], _ => ⟨[], rfl, fun x hx => by simp at hx⟩
  | d :: ds, h => by
    rw [List.all_cons, Bool.and_eq_true] at h
    obtain ⟨ls, rfl, hl⟩ := nats_rng h.2
    cases d with
    | int i =>
      have h1 := h.1
      simp only [rngB, Bool.and_eq_true, decide_eq_true_eq] at h1
      refine ⟨i.toNat :: ls, ?_, fun x hx => ?_⟩
      · unfold nats
        rw [List.map_cons, Int.toNat_of_nonneg h1.1]
      · rcases List.mem_cons.mp hx with rfl | hx
        · omega
        · exact hl x hx
    | _ => simp [rngB] at h
theorem rng_nats {b : Nat} {ls : List Nat} (h : ∀ x ∈ ls, x < b) : (nats ls).all (rngB b) = true := by
  rw [List.all_eq_true]
  intro d hd
  obtain ⟨k, hk, rfl⟩ := List.mem_map.mp hd
  have := h k hk
  simp only [rngB, Bool.and_eq_true, decide_eq_true_eq]
  omega
/-- ascending -/
def asc (ls : List Nat) : Bool := (List.range (ls.length - 1)).all fun k => decide (ls.getD k 0 < ls.getD (k + 1) 0)
theorem asc_lt {ls : List Nat} (h : asc ls = true) : ∀ j i, i < j → j < ls.length → ls.getD i 0 < ls.getD j 0
  | 0, i, h1, _ => absurd h1 (Nat.not_lt_zero _)
  | j + 1, i, h1, h2 => by
    have step : ls.getD j 0 < ls.getD (j + 1) 0 := by
      unfold asc at h
      rw [List.all_eq_true] at h
      exact of_decide_eq_true (h j (List.mem_range.mpr (by omega)))
    by_cases e : i = j
    · subst e; exact step
    · exact Nat.lt_trans (asc_lt h j i (by omega) (by omega)) step
theorem asc_nodup {ls : List Nat} (h : asc ls = true) : ls.Nodup := by
  unfold List.Nodup
  rw [List.pairwise_iff_getElem]
  intro i j hi hj hij
  have h1 := asc_lt h j i hij hj
  rw [List.getD_eq_getElem?_getD, List.getD_eq_getElem?_getD, List.getElem?_eq_getElem hi, List.getElem?_eq_getElem hj] at h1
  simp only [Option.getD_some] at h1
  omega
def lotB (n : Nat) (v : D) : Prop := ∃ ls : List Nat, v = tD ls ∧ (∀ x ∈ ls, x < n) ∧ asc ls = true
theorem tD_inj {a b : List Nat} (h : tD a = tD b) : a = b := map_nats_inj (D.tup.inj h)
theorem lot_all {n : Nat} {ds : List D} (h : ds.all (rngB n) = false) : ¬ lotB n (.tup ds) := fun ⟨ls, e, hl, _⟩ => by
  have : ds = nats ls := D.tup.inj e
  rw [this, rng_nats hl] at h
  cases h
theorem lotB_nats {n : Nat} {ls : List Nat} (hl : ∀ x ∈ ls, x < n) : asc ls = true ↔ lotB n (tD ls) :=
  ⟨fun h => ⟨ls, rfl, hl, h⟩, fun ⟨l2, e, _, h⟩ => by rw [tD_inj e]; exact h⟩
theorem ev_is_lot {G : Nt} {v : D} (hv : Ask v) (hsz : ∀ ds, v = .tup ds → ds.length ≤ 1000) : ∃ b, m_is_crossing_lot [G.d, v] = some (.bl b) ∧ (b = true ↔ lotB G.n v) := by
  have key : wD (m_is_crossing_lot [G.d, v]) fun d => ∃ b, d = .bl b ∧ (b = true ↔ lotB G.n v) := by
    refine run_P rfl ?_
    unfold m_is_crossing_lotB
    show wS _ [some (.sh G.d), some (.sh v), none, none] () _
    rw [w_sSeq, w_sIf, w_tNot, w_tE]
    simp only [↓w_e1, ↓v1]
    rcases isTup_cases v hv.1 with ⟨ds, rfl⟩ | e
    · have e1 : dIsi "tuple" (.tup ds) = some (.bl true) := rfl
      simp only [e1, wD_some, isB_bl, Bool.not_true, Bool.false_eq_true, if_false]
      rw [w_sNx]
      show wS _ [some (.sh G.d), some (.sh (.tup ds)), none, none] () _
      rw [w_sSeq, w_sIf, w_tNot, w_tE, w_e1]
      refine w_lc (I := fun _ => True) (P := fun pre acc => acc = (pre.map (rngB G.n)).map .bl) ?_
      rw [w_iE]
      simp only [↓v1]
      refine ⟨by trivial, trivial, by trivial, by trivial, fun pre d post acc s e hp _ => ?_, fun acc s hp _ => ?_⟩
      · have hd := hv.2 ds rfl d (by rw [e]; simp)
        refine ⟨_, rfl, ?_⟩
        rw [w_tYes, if_pos rfl]
        simp only [wipeE, List.set]
        rw [rng_ev (b := (G.n : Int)) (d := d) rfl hd.1 (fun Q => by simp only [↓w_e2, ↓w_eC, ↓v0, o_n, wD_some])]
        exact ⟨by rw [hp]; simp, trivial, rfl⟩
      · rw [hp, o_allB, wD_some, isB_bl]
        have ha : ((ds.map (rngB G.n)).all id) = ds.all (rngB G.n) := by simp [List.all_map]
        rw [ha]
        cases hb : ds.all (rngB G.n) with
        | false =>
          simp only [Bool.not_false, if_true]
          rw [w_sRet, w_eC]
          exact ⟨false, rfl, (fun h => (by cases h)), (fun h => absurd h (lot_all hb))⟩
        | true =>
          simp only [Bool.not_true, Bool.false_eq_true, if_false]
          obtain ⟨ls, rfl, hl⟩ := nats_rng hb
          have hz := hsz _ rfl
          rw [List.length_map] at hz
          rw [w_sNx]
          show wS _ [some (.sh G.d), some (.sh (tD ls)), none, none] () _
          rw [w_sRet, w_e1]
          refine w_lc (I := fun _ => True) (P := fun pre acc => acc = ((List.range pre.length).map fun k => decide (ls.getD k 0 < ls.getD (k + 1) 0)).map .bl) ?_
          rw [w_iR1]
          simp only [↓w_e2, ↓w_e1, ↓w_eC, ↓v1]
          have e2 : dLen (tD ls) = some (.int (ls.length : Int)) := by show some (D.int ((nats ls).length : Int)) = _; rw [List.length_map]
          have e3 : dSub (.int (ls.length : Int)) (.int 1) = some (.int ((ls.length : Int) - 1)) := rfl
          simp only [e2, e3, wD_some, isI_int]
          rw [if_pos (by omega), wD_some]
          have e4 : ((ls.length : Int) - 1).toNat = ls.length - 1 := by omega
          rw [e4, rangeL_nats]
          refine ⟨by trivial, trivial, by trivial, by trivial, fun pre d post acc s e hp _ => ?_, fun acc s hp _ => ?_⟩
          · have hd : (nats (List.range (ls.length - 1)))[pre.length]? = some d := by rw [e]; simp
            obtain ⟨rfl, hk⟩ := take_succ_range hd
            refine ⟨_, rfl, ?_⟩
            rw [w_tYes, if_pos rfl]
            simp only [wipeE, List.set]
            simp only [↓w_e2, ↓w_eC, ↓v1, ↓v3]
            have a1 : dIx (tD ls) (.int (pre.length : Int)) = some (.int (ls.getD pre.length 0 : Nat)) := o_ixTN ls (by omega)
            have a2 : dAdd (.int (pre.length : Int)) (.int 1) = some (.int ((pre.length + 1 : Nat) : Int)) := rfl
            have a3 : dIx (tD ls) (.int ((pre.length + 1 : Nat) : Int)) = some (.int (ls.getD (pre.length + 1) 0 : Nat)) := o_ixTN ls (by omega)
            have a4 : dLt (.int (ls.getD pre.length 0 : Nat)) (.int (ls.getD (pre.length + 1) 0 : Nat)) = some (.bl (decide (ls.getD pre.length 0 < ls.getD (pre.length + 1) 0))) := by
              show some (D.bl (decide (((ls.getD pre.length 0 : Nat) : Int) < ((ls.getD (pre.length + 1) 0 : Nat) : Int)))) = _
              congr 2
              exact decide_eq_decide.mpr (by omega)
            simp only [a1, a2, a3, a4, wD_some]
            refine ⟨?_, trivial, rfl⟩
            rw [List.length_append, List.length_cons, List.length_nil, List.range_succ, List.map_append, List.map_append, hp]
            rfl
          · rw [hp, o_allB, wD_some, List.length_map, List.length_range]
            refine ⟨asc ls, ?_, lotB_nats hl⟩
            congr 1
            unfold asc
            simp [List.all_map]
    · simp only [e, wD_some, isB_bl, Bool.not_false, if_true]
      rw [w_sRet, w_eC]
      refine ⟨false, rfl, (fun h => (by cases h)), (fun h => ?_)⟩
      obtain ⟨ls, rfl, _⟩ := h
      cases e
  obtain ⟨d, h1, b, rfl, h2⟩ := wD_ex key
  exact ⟨b, h1, h2⟩
theorem ev_law_is_lot {n : Nat} {v : D} (hv : Ask v) (hsz : ∀ ds, v = .tup ds → ds.length ≤ 1000) : ∃ b, m_law_is_lot [v, .int n] = some (.bl b) ∧ (b = true ↔ lotB n v) := by
  have key : wD (m_law_is_lot [v, .int n]) fun d => ∃ b, d = .bl b ∧ (b = true ↔ lotB n v) := by
    refine run_P rfl ?_
    unfold m_law_is_lotB
    show wS _ [some (.sh v), some (.sh (.int n)), none, none] () _
    rw [w_sSeq, w_sIf, w_tOr, w_tNot, w_tE]
    simp only [↓w_e1, ↓v0]
    rcases isTup_cases v hv.1 with ⟨ds, rfl⟩ | e
    · have e1 : dIsi "tuple" (.tup ds) = some (.bl true) := rfl
      simp only [e1, wD_some, isB_bl, Bool.not_true, Bool.false_eq_true, if_false]
      rw [w_tE, w_e2]
      refine w_lc (I := fun _ => True) (P := fun pre acc => acc = pre.filter fun d => !rngB n d) ?_
      rw [w_iE]
      simp only [↓v0]
      refine ⟨by trivial, trivial, by trivial, by trivial, fun pre d post acc s e hp _ => ?_, fun acc s hp _ => ?_⟩
      · have hd := hv.2 ds rfl d (by rw [e]; simp)
        refine ⟨_, rfl, ?_⟩
        simp only [wipeE, List.set]
        rw [nrng_ev (b := (n : Int)) (d := d) rfl hd.1 (fun Q => by simp only [↓v1])]
        have fin : ∀ b, (!rngB n d) = b → (pre ++ [d]).filter (fun d => !rngB n d) = if b = true then acc ++ [d] else acc := fun b hb => by
          rw [List.filter_append, hp, List.filter_cons, hb]
          cases b <;> simp
        split
        · rename_i hb
          rw [v2, fin true hb, if_pos rfl]
          exact ⟨rfl, trivial, rfl⟩
        · rename_i hb
          rw [fin false (Bool.eq_false_iff.mpr hb), if_neg Bool.false_ne_true]
          exact ⟨rfl, trivial, rfl⟩
      · rw [w_eLst0]
        have hs : ∀ d ∈ acc, Sm d := fun d hd => by
          rw [hp] at hd
          exact hv.2 ds rfl d (List.mem_filter.mp hd).1
        rw [o_neNil (eqOk_sm hs), wD_some, isB_bl, hp, filter_empty]
        cases hb : ds.all (rngB n) with
        | false =>
          simp only [Bool.not_false, if_true]
          rw [w_sRet, w_eC]
          exact ⟨false, rfl, (fun h => (by cases h)), (fun h => absurd h (lot_all hb))⟩
        | true =>
          simp only [Bool.not_true, Bool.false_eq_true, if_false]
          obtain ⟨ls, rfl, hl⟩ := nats_rng hb
          have hz := hsz _ rfl
          rw [List.length_map] at hz
          rw [w_sNx]
          show wS _ [some (.sh (tD ls)), some (.sh (.int n)), none, none] () _
          rw [w_sRet, w_e2]
          refine w_lc (I := fun _ => True) (P := fun pre acc => acc = nats (((List.range pre.length).filter fun k => !decide (ls.getD k 0 < ls.getD (k + 1) 0)).map (· + 1))) ?_
          rw [w_iR2]
          simp only [↓w_e1, ↓w_eC, ↓v0, isI_int]
          have e2 : dLen (tD ls) = some (.int (ls.length : Int)) := by show some (D.int ((nats ls).length : Int)) = _; rw [List.length_map]
          simp only [e2, wD_some, isI_int]
          rw [if_pos (by omega), wD_some]
          have e4 : ((ls.length : Int) - 1).toNat = ls.length - 1 := by omega
          rw [e4, rangeL1]
          refine ⟨by trivial, trivial, by trivial, by trivial, fun pre d post acc s e hp _ => ?_, fun acc s hp _ => ?_⟩
          · have hd : ((List.range (ls.length - 1)).map fun (k : Nat) => D.int ((k + 1 : Nat) : Int))[pre.length]? = some d := by rw [e]; simp
            rw [List.getElem?_map] at hd
            have hk : pre.length < ls.length - 1 := by
              cases hh : (List.range (ls.length - 1))[pre.length]? with
              | none => rw [hh] at hd; cases hd
              | some x =>
                have := (List.getElem?_eq_some_iff.mp hh).1
                simpa using this
            rw [List.getElem?_range hk] at hd
            cases hd
            refine ⟨_, rfl, ?_⟩
            simp only [wipeE, List.set]
            rw [w_tE]
            simp only [↓w_e2, ↓w_eC, ↓v0, ↓v3]
            have a1 : dIx (tD ls) (.int ((pre.length + 1 : Nat) : Int)) = some (.int (ls.getD (pre.length + 1) 0 : Nat)) := o_ixTN ls (by omega)
            have a2 : dSub (.int ((pre.length + 1 : Nat) : Int)) (.int 1) = some (.int (pre.length : Int)) := by
              show some (D.int (((pre.length + 1 : Nat) : Int) - 1)) = _
              congr 2
              omega
            have a3 : dIx (tD ls) (.int (pre.length : Int)) = some (.int (ls.getD pre.length 0 : Nat)) := o_ixTN ls (by omega)
            have a4 : dLe (.int (ls.getD (pre.length + 1) 0 : Nat)) (.int (ls.getD pre.length 0 : Nat)) = some (.bl (!decide (ls.getD pre.length 0 < ls.getD (pre.length + 1) 0))) := by
              show some (D.bl (decide (((ls.getD (pre.length + 1) 0 : Nat) : Int) ≤ ((ls.getD pre.length 0 : Nat) : Int)))) = _
              congr 2
              rw [← decide_not]
              exact decide_eq_decide.mpr (by omega)
            simp only [a1, a2, a3, a4, wD_some, isB_bl]
            have fin : ∀ b, (!decide (ls.getD pre.length 0 < ls.getD (pre.length + 1) 0)) = b → nats (((List.range (pre ++ [D.int ((pre.length + 1 : Nat) : Int)]).length).filter fun k => !decide (ls.getD k 0 < ls.getD (k + 1) 0)).map (· + 1)) = if b = true then acc ++ [D.int ((pre.length + 1 : Nat) : Int)] else acc := fun b hb => by
              rw [List.length_append, List.length_cons, List.length_nil, List.range_succ, List.filter_append, List.filter_cons, hb, hp]
              unfold nats
              cases b <;> simp
            split
            · rename_i hb
              rw [fin true hb, if_pos rfl]
              exact ⟨rfl, trivial, rfl⟩
            · rename_i hb
              rw [fin false (Bool.eq_false_iff.mpr hb), if_neg Bool.false_ne_true]
              exact ⟨rfl, trivial, rfl⟩
          · rw [w_eLst0]
            have en : ∀ l : List Nat, dEq (.lst (nats l)) (.lst []) = some (.bl l.isEmpty) := fun l => by
              have en : nats l = (l.map fun (x : Nat) => (x : Int)).map .int := by unfold nats; rw [List.map_map]; rfl
              rw [en, o_eqNil (eqOk_ints _)]
              cases l <;> rfl
            rw [hp, en, wD_some, List.length_map, List.length_range]
            refine ⟨asc ls, ?_, lotB_nats hl⟩
            congr 1
            rw [List.isEmpty_map, filter_empty]
            rfl
    · simp only [e, wD_some, isB_bl, Bool.not_false, if_true]
      rw [w_sRet, w_eC]
      refine ⟨false, rfl, (fun h => (by cases h)), (fun h => ?_)⟩
      obtain ⟨ls, rfl, _⟩ := h
      cases e
  obtain ⟨d, h1, b, rfl, h2⟩ := wD_ex key
  exact ⟨b, h1, h2⟩
end Fw
/-! ## U2 -/
set_option linter.all false
set_option maxRecDepth 100000
set_option maxHeartbeats 1000000
/-! Rings. -/
namespace Fw
open PySem PySem.Spec PyProof.Rows L2
def tls (G : Nt) (t es : List Nat) : List Nat := es.map (G.tail t)
def hds (G : Nt) (t es : List Nat) : List Nat := es.map (G.head t)
def rot1 (l : List Nat) : List Nat := l.drop 1 ++ l.take 1
structure RingP (G : Nt) (t es : List Nat) : Prop where
  ne : es ≠ []
  lt : ∀ e ∈ es, e < G.roads.length
  mn : ∀ e ∈ es, es.getD 0 0 ≤ e
  nd : (tls G t es).Nodup
  ch : hds G t es = rot1 (tls G t es)
def ringB (G : Nt) (t : List Nat) (v : D) : Prop := ∃ es, v = tD es ∧ RingP G t es
theorem eqOk_smT {ds : List D} (h : ∀ d ∈ ds, Sm d) : D.eqOk (.tup ds) = true := by
  have h1 := eqOk_sm h
  unfold D.eqOk SeqAt.shaped at h1 ⊢
  have e1 : D.pure (.tup ds) = D.pure (.lst ds) := rfl
  have e2 : PyData.canLay0 (D.tup ds).py = PyData.canLay0 (D.lst ds).py := rfl
  have e3 : (D.tup ds).py.depth = (D.lst ds).py.depth := rfl
  rw [e1, e2, e3]
  exact h1
theorem o_eqNilTs {ds : List D} (h : ∀ d ∈ ds, Sm d) : dEq (.tup ds) (.tup []) = some (.bl ds.isEmpty) := by
  unfold dEq
  rw [if_pos ⟨eqOk_smT h, rfl⟩]
  cases ds <;> rfl
theorem o_neNilTs {ds : List D} (h : ∀ d ∈ ds, Sm d) : dNe (.tup ds) (.tup []) = some (.bl !ds.isEmpty) := by
  unfold dNe
  rw [if_pos ⟨eqOk_smT h, rfl⟩]
  cases ds <;> rfl
theorem eqv_nats : ∀ a b : List Nat, D.eqv (.lst (nats a)) (.lst (nats b)) = decide (a = b) := by
  have key : ∀ a b : List Nat, PyData.eqvAll (D.pys (nats a)) (D.pys (nats b)) = decide (a = b) := by
    intro a
    induction a with
    | nil => intro b; cases b <;> simp [D.pys, PyData.eqvAll]
    | cons x r ih =>
      intro b
      cases b with
      | nil => simp [D.pys, PyData.eqvAll]
      | cons y q =>
        have e : ((x : Int) == (y : Int)) = decide (x = y) := Bool.eq_iff_iff.mpr (by simp only [beq_iff_eq, decide_eq_true_eq]; omega)
        simp only [nats, List.map_cons, D.pys, D.py, PyData.eqvAll, PyData.eqv]
        have ih' := ih q
        simp only [nats] at ih'
        rw [ih', e]
        by_cases h1 : x = y <;> by_cases h2 : r = q <;> simp [h1, h2]
  exact key
theorem eqOk_nats (l : List Nat) : D.eqOk (.lst (nats l)) = true := by
  have en : nats l = (l.map fun (x : Nat) => (x : Int)).map .int := by unfold nats; rw [List.map_map]; rfl
  rw [en]
  exact eqOk_ints _
theorem o_eqLN (a b : List Nat) : dEq (.lst (nats a)) (.lst (nats b)) = some (.bl (decide (a = b))) := by
  unfold dEq
  rw [if_pos ⟨eqOk_nats a, eqOk_nats b⟩, eqv_nats]
theorem o_rot (l : List Nat) (hl : l.length ≤ 1000) : ∃ x y, dCut (some 1) none (.lst (nats l)) = some x ∧ dCut none (some 1) (.lst (nats l)) = some y ∧ dAdd x y = some (.lst (nats (rot1 l))) := by
  have c1 : cutD (nats l) (some 1) none = nats (l.drop 1) := by
    unfold cutD nats
    cases l with
    | nil => rfl
    | cons x r =>
      have e1 : sIxD ((x :: r).map fun (x : Nat) => D.int (x : Int)).length 0 (some 1) = 1 := by
        show (if (0 : Int) ≤ 1 then min (1 : Int).toNat ((x :: r).map fun (x : Nat) => D.int (x : Int)).length else ((1 : Int) + (((x :: r).map fun (x : Nat) => D.int (x : Int)).length : Int)).toNat) = 1
        rw [if_pos (by decide), List.length_map, List.length_cons]
        show min 1 (r.length + 1) = 1
        omega
      have e2 : sIxD ((x :: r).map fun (x : Nat) => D.int (x : Int)).length ((x :: r).map fun (x : Nat) => D.int (x : Int)).length none = r.length + 1 := by
        show ((x :: r).map fun (x : Nat) => D.int (x : Int)).length = _
        rw [List.length_map]; rfl
      rw [e1, e2, List.map_cons, List.drop_succ_cons, List.drop_zero, List.drop_succ_cons, List.drop_zero, List.take_of_length_le (by rw [List.length_map]; omega)]
  have c2 : cutD (nats l) none (some 1) = nats (l.take 1) := by
    unfold cutD nats
    cases l with
    | nil => rfl
    | cons x r =>
      have e1 : sIxD ((x :: r).map fun (x : Nat) => D.int (x : Int)).length ((x :: r).map fun (x : Nat) => D.int (x : Int)).length (some 1) = 1 := by
        show (if (0 : Int) ≤ 1 then min (1 : Int).toNat ((x :: r).map fun (x : Nat) => D.int (x : Int)).length else ((1 : Int) + (((x :: r).map fun (x : Nat) => D.int (x : Int)).length : Int)).toNat) = 1
        rw [if_pos (by decide), List.length_map, List.length_cons]
        show min 1 (r.length + 1) = 1
        omega
      have e2 : sIxD ((x :: r).map fun (x : Nat) => D.int (x : Int)).length 0 none = 0 := rfl
      rw [e1, e2, List.drop_zero, ← List.map_take]
  refine ⟨.lst (nats (l.drop 1)), .lst (nats (l.take 1)), by show some (D.lst (cutD _ _ _)) = _; rw [c1], by show some (D.lst (cutD _ _ _)) = _; rw [c2], ?_⟩
  show (if (nats (l.drop 1)).length + (nats (l.take 1)).length ≤ LIM then some (D.lst (nats (l.drop 1) ++ nats (l.take 1))) else none) = _
  rw [if_pos (by show _ ≤ 16777216; rw [List.length_map, List.length_map, List.length_drop, List.length_take]; omega)]
  unfold rot1 nats
  rw [List.map_append]
theorem o_minN {es : List Nat} (h : es ≠ []) : ∃ m : Nat, dMinL (tD es) = some (.int m) ∧ m ∈ es ∧ ∀ e ∈ es, m ≤ e := by
  have e1 : ints? (nats es) = some (es.map fun (x : Nat) => (x : Int)) := ints_nats es
  have hp : 0 < (es.map fun (x : Nat) => (x : Int)).length := by rw [List.length_map]; exact List.length_pos_iff.mpr h
  have hm := minL_mem hp
  obtain ⟨m, hm1, hm2⟩ := List.mem_map.mp hm
  refine ⟨m, ?_, hm1, fun e he => ?_⟩
  · cases es with
    | nil => exact absurd rfl h
    | cons x r =>
      show (ints? (nats (x :: r))).map _ = _
      rw [e1, Option.map_some, ← hm2]
  · have := minL_le (List.mem_map.mpr ⟨e, he, rfl⟩ : (e : Int) ∈ es.map fun (x : Nat) => (x : Int))
    rw [← hm2] at this
    omega
theorem count_nats (l : List Nat) (k : Nat) : dCount (.lst (nats l)) (.int (k : Int)) = some (.int (l.count k : Nat)) := by
  show (ints? (nats l)).map _ = _
  rw [ints_nats, Option.map_some]
  congr 3
  induction l with
  | nil => rfl
  | cons x r ih =>
    rw [List.map_cons, List.count_cons, List.count_cons, ih]
    congr 1
    by_cases h : x = k
    · subst h; simp
    · have : ¬ ((x : Int) = (k : Int)) := by omega
      simp [h, this]
theorem nodup_cnt {l : List Nat} : (l.all fun x => !decide (1 < l.count x)) = true ↔ l.Nodup := by
  rw [List.all_eq_true]
  constructor
  · intro h
    rw [List.nodup_iff_count]
    intro a
    by_cases ha : a ∈ l
    · have := h a ha
      simp only [Bool.not_eq_true', decide_eq_false_iff_not] at this
      omega
    · rw [List.count_eq_zero.mpr ha]
      omega
  · intro h x _
    have := List.nodup_iff_count.mp h x
    simp only [Bool.not_eq_true', decide_eq_false_iff_not]
    omega
end Fw
/-! ## U3 -/
set_option linter.all false
set_option maxRecDepth 100000
set_option maxHeartbeats 1000000
/-! Rings: the def, the law. -/
namespace Fw
open PySem PySem.Spec PyProof.Rows L2
theorem ring_all {G : Nt} {t : List Nat} {ds : List D} (h : ds.all (rngB G.roads.length) = false) : ¬ ringB G t (.tup ds) := fun ⟨es, e, R⟩ => by
  have : ds = nats es := D.tup.inj e
  rw [this, rng_nats R.lt] at h
  cases h
/-- a comprehension over a row of roads: what each gives -/
theorem map_ev {ρ : Env} {s : Unit} {i k : Nat} {f : E Unit} {es : List Nat} {g : Nat → Nat} {Q : D → Env → Unit → Prop} (hi : ρ[i]? = some (some (.sh (tD es)))) (hown : [k].all (notOw ρ) = true) (hb : ∀ x, backE ρ [k] ((wipeE [k] ρ).set k x) = ρ)
    (hf : ∀ e ∈ es, ∀ Q : D → Env → Unit → Prop, wE f ((wipeE [k] ρ).set k (some (.sh (.int (e : Int))))) s Q = Q (.int (g e : Nat)) ((wipeE [k] ρ).set k (some (.sh (.int (e : Int))))) s)
    (q : Q (.lst (nats (es.map g))) ρ s) : wE (eLc (iE (eV i)) (gN k) Fw.tYes f [k]) ρ s Q := by
  refine w_lc (I := fun s' => s' = s) (P := fun pre acc => ∃ ls : List Nat, pre = nats ls ∧ acc = nats (ls.map g)) ?_
  rw [w_iE, w_eV hi, show items? (tD es) = some (nats es) from rfl, wD_some]
  refine ⟨rfl, rfl, hown, ⟨[], rfl, rfl⟩, fun pre d post acc s' e hp hs => ?_, fun acc s' hp hs => ?_⟩
  · obtain ⟨ls, rfl, rfl⟩ := hp
    have hd : d ∈ nats es := by rw [e]; simp
    obtain ⟨c, hc, rfl⟩ := List.mem_map.mp hd
    subst hs
    refine ⟨_, rfl, ?_⟩
    rw [w_tYes, if_pos rfl, hf c hc]
    exact ⟨⟨ls ++ [c], by unfold nats; rw [List.map_append]; rfl, by unfold nats; rw [List.map_append, List.map_append]; rfl⟩, rfl, hb _⟩
  · obtain ⟨ls, h1, rfl⟩ := hp
    have := map_nats_inj h1
    subst this hs
    exact q
theorem ev_is_turning_ring {G : Nt} (hG : G.Ok) {t : List Nat} (ht : Tn G t) {v : D} (hv : Ask v) (hsz : ∀ ds, v = .tup ds → ds.length ≤ 1000) : ∃ b, m_is_turning_ring [G.d, tD t, v] = some (.bl b) ∧ (b = true ↔ ringB G t v) := by
  have key : wD (m_is_turning_ring [G.d, tD t, v]) fun d => ∃ b, d = .bl b ∧ (b = true ↔ ringB G t v) := by
    refine run_P rfl ?_
    unfold m_is_turning_ringB
    show wS _ [some (.sh G.d), some (.sh (tD t)), some (.sh v), none, none, none, none, none] () _
    rw [w_sSeq, w_sAsg]
    simp only [↓w_e1, ↓w_e2, ↓w_eC, ↓v0]
    simp only [o_roads, dLen, List.length_map, wD_some]
    show wS _ [some (.sh G.d), some (.sh (tD t)), some (.sh v), some (.sh (.int G.roads.length)), none, none, none, none] () _
    rw [w_sSeq, w_sIf, w_tOr, w_tNot, w_tE]
    simp only [↓w_e1, ↓v2]
    rcases isTup_cases v hv.1 with ⟨ds, rfl⟩ | e
    · have e1 : dIsi "tuple" (.tup ds) = some (.bl true) := rfl
      simp only [e1, wD_some, isB_bl, Bool.not_true, Bool.false_eq_true, if_false]
      rw [w_tE]
      simp only [↓w_e2, ↓w_eTup0, ↓v2]
      rw [o_eqNilTs (hv.2 ds rfl), wD_some, isB_bl]
      by_cases hne : ds = []
      · subst hne
        simp only [List.isEmpty_nil, if_true]
        rw [w_sRet, w_eC]
        refine ⟨false, rfl, (fun h => (by cases h)), (fun h => ?_)⟩
        obtain ⟨es, e, R⟩ := h
        have : ([] : List D) = nats es := D.tup.inj e
        cases es with
        | nil => exact absurd rfl R.ne
        | cons _ _ => cases this
      · have hemp : ds.isEmpty = false := by cases ds with
          | nil => exact absurd rfl hne
          | cons _ _ => rfl
        rw [hemp]
        simp only [Bool.false_eq_true, if_false]
        rw [w_sNx]
        show wS _ [some (.sh G.d), some (.sh (tD t)), some (.sh (.tup ds)), some (.sh (.int G.roads.length)), none, none, none, none] () _
        rw [w_sSeq, w_sIf, w_tNot, w_tE, w_e1]
        refine w_lc (I := fun _ => True) (P := fun pre acc => acc = (pre.map (rngB G.roads.length)).map .bl) ?_
        rw [w_iE]
        simp only [↓v2]
        refine ⟨by trivial, trivial, by trivial, by trivial, fun pre d post acc s e hp _ => ?_, fun acc s hp _ => ?_⟩
        · have hd := hv.2 ds rfl d (by rw [e]; simp)
          refine ⟨_, rfl, ?_⟩
          rw [w_tYes, if_pos rfl]
          simp only [wipeE, List.set]
          rw [rng_ev (b := (G.roads.length : Int)) (d := d) rfl hd.1 (fun Q => by simp only [↓v3])]
          exact ⟨by rw [hp]; simp, trivial, rfl⟩
        · rw [hp, o_allB, wD_some, isB_bl]
          have ha : ((ds.map (rngB G.roads.length)).all id) = ds.all (rngB G.roads.length) := by simp [List.all_map]
          rw [ha]
          cases hb : ds.all (rngB G.roads.length) with
          | false =>
            simp only [Bool.not_false, if_true]
            rw [w_sRet, w_eC]
            exact ⟨false, rfl, (fun h => (by cases h)), (fun h => absurd h (ring_all hb))⟩
          | true =>
            simp only [Bool.not_true, Bool.false_eq_true, if_false]
            obtain ⟨es, rfl, hl⟩ := nats_rng hb
            have hz := hsz _ rfl
            rw [List.length_map] at hz
            have hes : es ≠ [] := fun h => hne (by rw [h]; rfl)
            rw [w_sNx]
            show wS _ [some (.sh G.d), some (.sh (tD t)), some (.sh (tD es)), some (.sh (.int G.roads.length)), none, none, none, none] () _
            rw [w_sSeq, w_sAsg]
            refine map_ev (es := es) (g := G.tail t) rfl rfl (fun x => rfl) (fun e he Q => ?_) ?_
            · simp only [wipeE, List.set]
              simp only [↓w_eCallP, ↓w_aCons, ↓w_aNil, ↓v0, ↓v1, ↓v6]
              rw [ev_tail_of ht (hl e he), wD_some]
            show wS _ [some (.sh G.d), some (.sh (tD t)), some (.sh (tD es)), some (.sh (.int G.roads.length)), some (.sh (.lst (nats (tls G t es)))), none, none, none] () _
            rw [w_sSeq, w_sAsg]
            refine map_ev (es := es) (g := G.head t) rfl rfl (fun x => rfl) (fun e he Q => ?_) ?_
            · simp only [wipeE, List.set]
              simp only [↓w_eCallP, ↓w_aCons, ↓w_aNil, ↓v0, ↓v1, ↓v6]
              rw [ev_head_of ht (hl e he), wD_some]
            show wS _ [some (.sh G.d), some (.sh (tD t)), some (.sh (tD es)), some (.sh (.int G.roads.length)), some (.sh (.lst (nats (tls G t es)))), some (.sh (.lst (nats (hds G t es)))), none, none] () _
            rw [w_sSeq, w_sIf, w_tOr, w_tE]
            simp only [↓w_e2, ↓w_e1, ↓w_eC, ↓v2]
            obtain ⟨m, em, m1, m2⟩ := o_minN hes
            have e0 : dIx (tD es) (.int 0) = some (.int (es.getD 0 0 : Nat)) := o_ixTN es (a := 0) (List.length_pos_iff.mpr hes)
            simp only [e0, em, wD_some, o_neI, isB_bl]
            by_cases hmn : es.getD 0 0 = m
            · have : decide (((es.getD 0 0 : Nat) : Int) = (m : Int)) = true := decide_eq_true (by omega)
              rw [this]
              simp only [Bool.not_true, Bool.false_eq_true, if_false]
              rw [w_tE, w_e2]
              refine w_lc (I := fun _ => True) (P := fun pre acc => ∃ ls : List Nat, pre = nats ls ∧ acc = nats (ls.filter fun x => decide (1 < (tls G t es).count x))) ?_
              rw [w_iE]
              simp only [↓v4]
              rw [show items? (.lst (nats (tls G t es))) = some (nats (tls G t es)) from rfl, wD_some]
              refine ⟨by trivial, trivial, by trivial, ⟨[], rfl, rfl⟩, fun pre d post acc s e hp _ => ?_, fun acc s hp _ => ?_⟩
              · obtain ⟨ls, rfl, rfl⟩ := hp
                have hd : d ∈ nats (tls G t es) := by rw [e]; simp
                obtain ⟨c, hc, rfl⟩ := List.mem_map.mp hd
                refine ⟨_, rfl, ?_⟩
                simp only [wipeE, List.set]
                rw [w_tE]
                simp only [↓w_e2, ↓w_eC, ↓v4, ↓v7]
                have a1 : dGt (.int ((tls G t es).count c : Nat)) (.int 1) = some (.bl (decide (1 < (tls G t es).count c))) := by
                  show some (D.bl (decide ((1 : Int) < (((tls G t es).count c : Nat) : Int)))) = _
                  congr 2
                  exact decide_eq_decide.mpr (by omega)
                simp only [count_nats, a1, wD_some, isB_bl]
                have en : nats ls ++ [D.int c] = nats (ls ++ [c]) := by unfold nats; rw [List.map_append]; rfl
                have fin : ∀ b, decide (1 < (tls G t es).count c) = b → nats ((ls ++ [c]).filter fun x => decide (1 < (tls G t es).count x)) = if b = true then nats (ls.filter fun x => decide (1 < (tls G t es).count x)) ++ [D.int c] else nats (ls.filter fun x => decide (1 < (tls G t es).count x)) := fun b hb => by
                  rw [List.filter_append, List.filter_cons, hb]
                  unfold nats
                  cases b <;> simp
                split
                · rename_i hb
                  exact ⟨⟨ls ++ [c], en, by rw [fin true hb, if_pos rfl]⟩, trivial, rfl⟩
                · rename_i hb
                  exact ⟨⟨ls ++ [c], en, by rw [fin false (Bool.eq_false_iff.mpr hb), if_neg Bool.false_ne_true]⟩, trivial, rfl⟩
              · obtain ⟨ls, h1, rfl⟩ := hp
                have e5 := map_nats_inj h1
                subst e5
                rw [w_eLst0, o_neNilL, wD_some, isB_bl]
                have hfe : ((tls G t es).filter fun x => decide (1 < (tls G t es).count x)).isEmpty = (tls G t es).all fun x => !decide (1 < (tls G t es).count x) := by
                  rw [← filter_empty]
                  simp only [Bool.not_not]
                rw [hfe]
                cases hnd : (tls G t es).all fun x => !decide (1 < (tls G t es).count x) with
                | false =>
                  simp only [Bool.not_false, if_true]
                  rw [w_sRet, w_eC]
                  refine ⟨false, rfl, (fun h => (by cases h)), (fun h => ?_)⟩
                  obtain ⟨e2, he2, R⟩ := h
                  have := tD_inj he2
                  subst this
                  rw [nodup_cnt.mpr R.nd] at hnd
                  cases hnd
                | true =>
                  simp only [Bool.not_true, Bool.false_eq_true, if_false]
                  rw [w_sNx]
                  show wS _ [some (.sh G.d), some (.sh (tD t)), some (.sh (tD es)), some (.sh (.int G.roads.length)), some (.sh (.lst (nats (tls G t es)))), some (.sh (.lst (nats (hds G t es)))), none, none] () _
                  rw [w_sRet]
                  simp only [↓w_e2, ↓w_eCut, ↓w_pNone, ↓w_pSome, ↓w_eC, ↓v4, ↓v5]
                  obtain ⟨x, y, c1, c2, c3⟩ := o_rot (tls G t es) (by unfold tls; rw [List.length_map]; exact hz)
                  simp only [isI_int, c1, c2, c3, wD_some, o_eqLN]
                  refine ⟨_, rfl, ?_⟩
                  rw [decide_eq_true_eq]
                  refine ⟨fun h => ⟨es, rfl, hes, hl, fun e he => by rw [hmn]; exact m2 e he, nodup_cnt.mp hnd, h⟩, fun h => ?_⟩
                  obtain ⟨e2, he2, R⟩ := h
                  have := tD_inj he2
                  subst this
                  exact R.ch
            · have : decide (((es.getD 0 0 : Nat) : Int) = (m : Int)) = false := decide_eq_false (by omega)
              rw [this]
              simp only [Bool.not_false, if_true]
              rw [w_sRet, w_eC]
              refine ⟨false, rfl, (fun h => (by cases h)), (fun h => ?_)⟩
              obtain ⟨e2, he2, R⟩ := h
              have := tD_inj he2
              subst this
              have h3 := R.mn m m1
              have h4 : es.getD 0 0 ∈ es := by
                have hp := List.length_pos_iff.mpr hes
                rw [List.getD_eq_getElem?_getD, List.getElem?_eq_getElem hp]
                exact List.getElem_mem hp
              have h5 := m2 _ h4
              exact absurd (Nat.le_antisymm h3 h5) hmn
    · simp only [e, wD_some, isB_bl, Bool.not_false, if_true]
      rw [w_sRet, w_eC]
      refine ⟨false, rfl, (fun h => (by cases h)), (fun h => ?_)⟩
      obtain ⟨ls, rfl, _⟩ := h
      cases e
  obtain ⟨d, h1, b, rfl, h2⟩ := wD_ex key
  exact ⟨b, h1, h2⟩
end Fw
/-! ## U4 -/
set_option linter.all false
set_option maxRecDepth 100000
set_option maxHeartbeats 1000000
/-! Rings: the law. -/
namespace Fw
open PySem PySem.Spec PyProof.Rows L2
theorem ev_ring_starts {G : Nt} {t : List Nat} (ht : Tn G t) {es : List Nat} (hne : es ≠ []) (hl : ∀ e ∈ es, e < G.roads.length) (hz : es.length ≤ 1000) :
    m_law_ring_starts [G.d, tD t, tD es] = some (if hds G t es = rot1 (tls G t es) then .lst (nats (tls G t es)) else .non) := by
  refine wD_eq (run_P rfl ?_)
  unfold m_law_ring_startsB
  show wS _ [some (.sh G.d), some (.sh (tD t)), some (.sh (tD es)), none, none, none] () _
  rw [w_sSeq, w_sAsg]
  refine map_ev (es := es) (g := G.tail t) rfl rfl (fun x => rfl) (fun e he Q => ?_) ?_
  · simp only [wipeE, List.set]
    simp only [↓w_e2, ↓w_eC, ↓v0, ↓v1, ↓v5]
    have e3 : dIx (tD t) (.int (e : Int)) = some (.int (t.getD e 0 : Nat)) := o_ixTN t (by rw [ht.len]; exact hl e he)
    simp only [o_roads, o_road (hl e he), e3, o_tail ht (hl e he), wD_some]
  show wS _ [some (.sh G.d), some (.sh (tD t)), some (.sh (tD es)), some (.sh (.lst (nats (tls G t es)))), none, none] () _
  rw [w_sSeq, w_sAsg]
  refine map_ev (es := es) (g := G.head t) rfl rfl (fun x => rfl) (fun e he Q => ?_) ?_
  · simp only [wipeE, List.set]
    simp only [↓w_e2, ↓w_eC, ↓v0, ↓v1, ↓v5]
    have e3 : dIx (tD t) (.int (e : Int)) = some (.int (t.getD e 0 : Nat)) := o_ixTN t (by rw [ht.len]; exact hl e he)
    have e4 : dSub (.int 1) (.int (t.getD e 0 : Nat)) = some (.int (1 - (t.getD e 0 : Nat))) := rfl
    simp only [o_roads, o_road (hl e he), e3, e4, o_head ht (hl e he), wD_some]
  show wS _ [some (.sh G.d), some (.sh (tD t)), some (.sh (tD es)), some (.sh (.lst (nats (tls G t es)))), some (.sh (.lst (nats (hds G t es)))), none] () _
  rw [w_sRet, w_eIf, w_tAnd, w_tE]
  simp only [↓w_e2, ↓w_eTup0, ↓v2]
  have hemp : es.isEmpty = false := by cases es with
    | nil => exact absurd rfl hne
    | cons _ _ => rfl
  have e1 : dNe (tD es) (.tup []) = some (.bl true) := by
    have := o_neNilTs (ds := nats es) fun d hd => by
      obtain ⟨k, _, rfl⟩ := List.mem_map.mp hd
      exact ⟨rfl, rfl, rfl, by show 0 ≤ 1; decide⟩
    show dNe (.tup (nats es)) _ = _
    rw [this, List.isEmpty_map, hemp]
    rfl
  rw [e1, wD_some, isB_bl, if_pos rfl, w_tE]
  simp only [↓w_e2, ↓w_eCut, ↓w_pNone, ↓w_pSome, ↓w_eC, ↓v3, ↓v4]
  obtain ⟨x, y, c1, c2, c3⟩ := o_rot (tls G t es) (by unfold tls; rw [List.length_map]; exact hz)
  simp only [isI_int, c1, c2, c3, wD_some, o_eqLN, isB_bl]
  by_cases h : hds G t es = rot1 (tls G t es)
  · rw [decide_eq_true h, if_pos rfl, if_pos h]
  · rw [decide_eq_false h, if_neg Bool.false_ne_true, if_neg h]
theorem addN_len : ∀ (ls acc : List Nat), acc.Nodup → (ls.foldl addN acc).length ≤ acc.length + ls.length ∧ ((ls.foldl addN acc).length = acc.length + ls.length ↔ ls.Nodup ∧ ∀ x ∈ ls, x ∉ acc)
  | [], acc, _ => ⟨Nat.le_refl _, fun _ => ⟨List.nodup_nil, fun x hx => by simp at hx⟩, fun _ => rfl⟩
  | x :: r, acc, ha => by
    rw [List.foldl_cons, List.length_cons]
    by_cases h : x ∈ acc
    · rw [show addN acc x = acc from if_pos h]
      obtain ⟨a, b⟩ := addN_len r acc ha
      refine ⟨by omega, fun e => by omega, fun e => absurd h (e.2 x (List.mem_cons_self ..))⟩
    · rw [show addN acc x = acc ++ [x] from if_neg h]
      obtain ⟨a, b⟩ := addN_len r (acc ++ [x]) (nodup_snoc ha h)
      rw [List.length_append, List.length_cons, List.length_nil] at a b
      refine ⟨by omega, fun e => ?_, fun e => ?_⟩
      · obtain ⟨c, d⟩ := b.mp (by omega)
        refine ⟨List.nodup_cons.mpr ⟨fun hx => d x hx (by simp), c⟩, fun y hy => ?_⟩
        rcases List.mem_cons.mp hy with rfl | hy
        · exact h
        · exact fun z => d y hy (List.mem_append_left _ z)
      · obtain ⟨c, d⟩ := List.nodup_cons.mp e.1
        have := b.mpr ⟨d, fun y hy z => by
          rcases List.mem_append.mp z with z | z
          · exact e.2 y (List.mem_cons_of_mem _ hy) z
          · rw [List.mem_singleton.mp z] at hy
            exact c hy⟩
        omega
theorem o_dictLen (ls : List Nat) : ∃ kvs, dDictP (.lst (ls.map fun (c : Nat) => D.tup [.int c, .int 0])) = some (.dct kvs) ∧ dLenK (.dct kvs) = some (.int ((ls.foldl addN []).length : Nat)) := by
  have hp : ∀ ls : List Nat, pairs? (ls.map fun (c : Nat) => D.tup [.int c, .int 0]) = some (ls.map fun (c : Nat) => ((.inl (c : Int) : Key), D.int 0)) := fun ls => by
    induction ls with
    | nil => rfl
    | cons x r ih =>
      show (key? (.int (x : Int))).bind (fun k => (pairs? (r.map fun (c : Nat) => D.tup [.int c, .int 0])).map ((k, D.int 0) :: ·)) = _
      rw [ih]
      rfl
  have hf : ∀ (ls acc : List Nat), (ls.map fun (c : Nat) => ((.inl (c : Int) : Key), D.int 0)).foldl (fun acc kv => dput acc kv.1 kv.2) (kd f0 (kz acc)) = kd f0 (kz (ls.foldl addN acc)) := fun ls => by
    induction ls with
    | nil => intro acc; rfl
    | cons x r ih =>
      intro acc
      rw [List.map_cons, List.foldl_cons, List.foldl_cons]
      show (r.map fun (c : Nat) => ((.inl (c : Int) : Key), D.int 0)).foldl (fun acc kv => dput acc kv.1 kv.2) (dput (kd f0 (kz acc)) (.inl (x : Int)) (.int 0)) = _
      rw [kz_put, ih]
  refine ⟨kd f0 (kz (ls.foldl addN [])), ?_, ?_⟩
  · show (pairs? _).map _ = _
    rw [hp, Option.map_some]
    have := hf ls []
    exact congrArg (fun z => some (D.dct z)) this
  · show some (D.int ((kd f0 (kz (ls.foldl addN []))).length : Nat)) = _
    rw [kd_len]
    unfold kz
    rw [List.length_map]
theorem ints_all {ds : List D} (h : ds.all isN = true) : ∃ is : List Int, ds = is.map .int := by
  induction ds with
  | nil => exact ⟨[], rfl⟩
  | cons d r ih =>
    rw [List.all_cons, Bool.and_eq_true] at h
    obtain ⟨is, rfl⟩ := ih h.2
    cases d with
    | int i => exact ⟨i :: is, rfl⟩
    | _ => simp [isN] at h
theorem o_minI' {is : List Int} (h : is ≠ []) : dMinL (.tup (is.map .int)) = some (.int (minL is)) ∧ dMaxL (.tup (is.map .int)) = some (.int (maxL is)) := by
  cases is with
  | nil => exact absurd rfl h
  | cons x r =>
    refine ⟨?_, ?_⟩
    · show (ints? ((x :: r).map D.int)).map _ = _
      rw [ints_int]
      rfl
    · show (ints? ((x :: r).map D.int)).map _ = _
      rw [ints_int]
      rfl
theorem ev_law_ring {G : Nt} (hG : G.Ok) {t : List Nat} (ht : Tn G t) {v : D} (hv : Ask v) (hsz : ∀ ds, v = .tup ds → ds.length ≤ 1000) : ∃ b, m_law_is_turning_ring [G.d, tD t, v] = some (.bl b) ∧ (b = true ↔ ringB G t v) := by
  have key : wD (m_law_is_turning_ring [G.d, tD t, v]) fun d => ∃ b, d = .bl b ∧ (b = true ↔ ringB G t v) := by
    refine run_P rfl ?_
    unfold m_law_is_turning_ringB
    show wS _ [some (.sh G.d), some (.sh (tD t)), some (.sh v), none, none, none] () _
    rw [w_sSeq, w_sIf, w_tOr, w_tNot, w_tE]
    simp only [↓w_e1, ↓v2]
    have no : ∀ {d : D}, d = .bl false → ¬ ringB G t v → ∃ b, d = .bl b ∧ (b = true ↔ ringB G t v) := fun hd h => ⟨false, hd, (fun z => (by cases z)), (fun z => absurd z h)⟩
    rcases isTup_cases v hv.1 with ⟨ds, rfl⟩ | e
    · have e1 : dIsi "tuple" (.tup ds) = some (.bl true) := rfl
      simp only [e1, wD_some, isB_bl, Bool.not_true, Bool.false_eq_true, if_false]
      rw [w_tE, w_e2]
      refine w_lc (I := fun _ => True) (P := fun pre acc => acc = pre.filter fun d => !isN d) ?_
      rw [w_iE]
      simp only [↓v2]
      refine ⟨by trivial, trivial, by trivial, by trivial, fun pre d post acc s e hp _ => ?_, fun acc s hp _ => ?_⟩
      · have hd := hv.2 ds rfl d (by rw [e]; simp)
        refine ⟨_, rfl, ?_⟩
        simp only [wipeE, List.set]
        rw [w_tNot, w_tE]
        simp only [↓w_eCallP, ↓w_aCons, ↓w_aNil, ↓v4]
        simp only [ev_is_int hd.1, wD_some, isB_bl]
        have fin : ∀ b, (!isN d) = b → (pre ++ [d]).filter (fun d => !isN d) = if b = true then acc ++ [d] else acc := fun b hb => by
          rw [List.filter_append, hp, List.filter_cons, hb]
          cases b <;> simp
        split
        · rename_i hb
          rw [fin true hb, if_pos rfl]
          exact ⟨rfl, trivial, rfl⟩
        · rename_i hb
          rw [fin false (Bool.eq_false_iff.mpr hb), if_neg Bool.false_ne_true]
          exact ⟨rfl, trivial, rfl⟩
      · have hs : ∀ d ∈ acc, Sm d := fun d hd => by
          rw [hp] at hd
          exact hv.2 ds rfl d (List.mem_filter.mp hd).1
        rw [w_eLst0, o_neNil (eqOk_sm hs), wD_some, isB_bl, hp, filter_empty]
        cases hb : ds.all isN with
        | false =>
          simp only [Bool.not_false, if_true]
          rw [w_sRet, w_eC]
          refine no rfl fun ⟨es, e, R⟩ => ?_
          have : ds = nats es := D.tup.inj e
          rw [this] at hb
          have : (nats es).all isN = true := by
            rw [List.all_eq_true]
            intro d hd
            obtain ⟨k, _, rfl⟩ := List.mem_map.mp hd
            rfl
          rw [this] at hb
          cases hb
        | true =>
          simp only [Bool.not_true, Bool.false_eq_true, if_false]
          obtain ⟨is, rfl⟩ := ints_all hb
          have hz := hsz _ rfl
          rw [List.length_map] at hz
          rw [w_sNx]
          show wS _ [some (.sh G.d), some (.sh (tD t)), some (.sh (.tup (is.map .int))), none, none, none] () _
          rw [w_sSeq, w_sIf, w_tOr, w_tE]
          simp only [↓w_e2, ↓w_eTup0, ↓v2]
          rw [o_eqNilTs (hv.2 _ rfl), wD_some, isB_bl, List.isEmpty_map]
          by_cases hne : is = []
          · subst hne
            simp only [List.isEmpty_nil, if_true]
            rw [w_sRet, w_eC]
            refine no rfl fun ⟨es, e, R⟩ => ?_
            have : ([] : List D) = nats es := D.tup.inj e
            cases es with
            | nil => exact absurd rfl R.ne
            | cons _ _ => cases this
          · have hemp : is.isEmpty = false := by cases is with
              | nil => exact absurd rfl hne
              | cons _ _ => rfl
            have hp0 := List.length_pos_iff.mpr hne
            obtain ⟨mi, ma⟩ := o_minI' hne
            have hmm := minL_mem hp0
            have hMm := maxL_mem hp0
            rw [hemp]
            simp only [Bool.false_eq_true, if_false]
            rw [w_tOr, w_tE]
            simp only [↓w_e2, ↓w_e1, ↓w_eC, ↓v2]
            have a1 : dLt (.int (minL is)) (.int 0) = some (.bl (decide (minL is < 0))) := rfl
            simp only [mi, a1, wD_some, isB_bl]
            have toN : ∀ es : List Nat, D.tup (is.map .int) = tD es → is = es.map fun (x : Nat) => (x : Int) := fun es e => by
              have h1 : is.map D.int = (es.map fun (x : Nat) => (x : Int)).map .int := by
                rw [List.map_map]; exact D.tup.inj e
              exact map_inj (f := D.int) (fun a b e => by cases e; rfl) h1
            by_cases hlo : minL is < 0
            · rw [decide_eq_true hlo, if_pos rfl, w_sRet, w_eC]
              refine no rfl fun ⟨es, e, R⟩ => ?_
              rw [toN es e] at hmm
              obtain ⟨k, _, hk⟩ := List.mem_map.mp hmm
              rw [← toN es e] at hk
              omega
            · rw [decide_eq_false hlo]
              simp only [Bool.false_eq_true, if_false]
              rw [w_tOr, w_tE]
              simp only [↓w_e2, ↓w_e1, ↓w_eC, ↓v0, ↓v2]
              have a2 : dGe (.int (maxL is)) (.int (G.roads.length : Int)) = some (.bl (decide ((G.roads.length : Int) ≤ maxL is))) := rfl
              simp only [ma, o_roads, dLen, List.length_map, a2, wD_some, isB_bl]
              by_cases hhi : (G.roads.length : Int) ≤ maxL is
              · rw [decide_eq_true hhi, if_pos rfl, w_sRet, w_eC]
                refine no rfl fun ⟨es, e, R⟩ => ?_
                rw [toN es e] at hMm
                obtain ⟨k, hk1, hk⟩ := List.mem_map.mp hMm
                rw [← toN es e] at hk
                have := R.lt k hk1
                omega
              · rw [decide_eq_false hhi]
                simp only [Bool.false_eq_true, if_false]
                rw [w_tE]
                simp only [↓w_e2, ↓w_e1, ↓w_eC, ↓v2]
                -- all in range
                obtain ⟨es, hes, hl⟩ : ∃ es : List Nat, is = (es.map fun (x : Nat) => (x : Int)) ∧ ∀ e ∈ es, e < G.roads.length := by
                  refine ⟨is.map Int.toNat, ?_, fun e he => ?_⟩
                  · rw [List.map_map]
                    have : ∀ x ∈ is, ((fun (x : Nat) => (x : Int)) ∘ Int.toNat) x = x := fun x hx => by
                      have := minL_le hx
                      show ((x.toNat : Nat) : Int) = x
                      omega
                    exact ((List.map_congr_left this).trans (List.map_id _)).symm
                  · obtain ⟨x, hx, rfl⟩ := List.mem_map.mp he
                    have := minL_le hx
                    have := maxL_ge hx
                    omega
                have hv' : D.tup (is.map .int) = tD es := by
                  rw [hes, List.map_map]
                  rfl
                have hne' : es ≠ [] := fun h => hne (by rw [hes, h]; rfl)
                have hz' : es.length ≤ 1000 := by rw [hes, List.length_map] at hz; exact hz
                rw [hv'] at mi no ⊢
                obtain ⟨m, em, m1, m2⟩ := o_minN hne'
                have e0 : dIx (tD es) (.int 0) = some (.int (es.getD 0 0 : Nat)) := o_ixTN es (a := 0) (List.length_pos_iff.mpr hne')
                simp only [em, e0, wD_some, o_neI, isB_bl]
                by_cases hmn : es.getD 0 0 = m
                · have : decide ((m : Int) = ((es.getD 0 0 : Nat) : Int)) = true := decide_eq_true (by omega)
                  rw [this]
                  simp only [Bool.not_true, Bool.false_eq_true, if_false]
                  rw [w_sNx]
                  show wS _ [some (.sh G.d), some (.sh (tD t)), some (.sh (tD es)), none, none, none] () _
                  rw [w_sSeq, w_sAsg]
                  simp only [↓w_eCallP, ↓w_aCons, ↓w_aNil, ↓v0, ↓v1, ↓v2]
                  rw [ev_ring_starts ht hne' hl hz', wD_some]
                  by_cases hch : hds G t es = rot1 (tls G t es)
                  · rw [if_pos hch]
                    show wS _ [some (.sh G.d), some (.sh (tD t)), some (.sh (tD es)), some (.sh (.lst (nats (tls G t es)))), none, none] () _
                    rw [w_sRet, w_eAnd]
                    simp only [↓w_e1, ↓v3]
                    have a3 : dNotN (.lst (nats (tls G t es))) = some (.bl true) := rfl
                    rw [a3, wD_some, isB_bl, if_pos rfl, w_e2, w_e1, w_e1]
                    refine w_lc (I := fun _ => True) (P := fun pre acc => ∃ ls : List Nat, pre = nats ls ∧ acc = ls.map fun (c : Nat) => D.tup [.int c, .int 0]) ?_
                    rw [w_iE]
                    simp only [↓v3]
                    rw [show items? (.lst (nats (tls G t es))) = some (nats (tls G t es)) from rfl, wD_some]
                    refine ⟨by trivial, trivial, by trivial, ⟨[], rfl, rfl⟩, fun pre d post acc s e hp _ => ?_, fun acc s hp _ => ?_⟩
                    · obtain ⟨ls, rfl, rfl⟩ := hp
                      have hd : d ∈ nats (tls G t es) := by rw [e]; simp
                      obtain ⟨c, hc, rfl⟩ := List.mem_map.mp hd
                      refine ⟨_, rfl, ?_⟩
                      rw [w_tYes, if_pos rfl]
                      simp only [wipeE, List.set]
                      simp only [↓w_eTup2, ↓w_eC, ↓v5]
                      exact ⟨⟨ls ++ [c], by unfold nats; rw [List.map_append]; rfl, by rw [List.map_append]; rfl⟩, trivial, rfl⟩
                    · obtain ⟨ls, h1, rfl⟩ := hp
                      have e5 := map_nats_inj h1
                      subst e5
                      obtain ⟨kvs, d1, d2⟩ := o_dictLen (tls G t es)
                      rw [d1, wD_some, d2, wD_some]
                      simp only [↓w_e1, ↓v3]
                      have a4 : dLen (.lst (nats (tls G t es))) = some (.int ((tls G t es).length : Nat)) := by show some (D.int ((nats _).length : Nat)) = _; rw [List.length_map]
                      rw [a4, wD_some, o_eqI, wD_some]
                      refine ⟨_, rfl, ?_⟩
                      obtain ⟨_, b2⟩ := addN_len (tls G t es) [] List.nodup_nil
                      rw [decide_eq_true_eq]
                      simp only [List.length_nil, Nat.zero_add] at b2
                      constructor
                      · intro h
                        exact ⟨es, rfl, hne', hl, fun e he => by rw [hmn]; exact m2 e he, (b2.mp (by omega)).1, hch⟩
                      · intro ⟨e2, he2, R⟩
                        have := tD_inj he2
                        subst this
                        have := b2.mpr ⟨R.nd, fun x _ => by simp⟩
                        omega
                  · rw [if_neg hch]
                    simp only [gN, wD_some, List.set]
                    rw [w_sRet, w_eAnd]
                    simp only [↓w_e1, ↓v3]
                    have a3 : dNotN .non = some (.bl false) := rfl
                    rw [a3, wD_some, isB_bl, if_neg Bool.false_ne_true]
                    refine no rfl fun ⟨e2, he2, R⟩ => ?_
                    have := tD_inj he2
                    subst this
                    exact hch R.ch
                · have : decide ((m : Int) = ((es.getD 0 0 : Nat) : Int)) = false := decide_eq_false (by omega)
                  rw [this]
                  simp only [Bool.not_false, if_true]
                  rw [w_sRet, w_eC]
                  refine no rfl fun ⟨e2, he2, R⟩ => ?_
                  have := tD_inj he2
                  subst this
                  have h3 := R.mn m m1
                  have h4 : es.getD 0 0 ∈ es := by
                    have hp := List.length_pos_iff.mpr hne'
                    rw [List.getD_eq_getElem?_getD, List.getElem?_eq_getElem hp]
                    exact List.getElem_mem hp
                  exact hmn (Nat.le_antisymm h3 (m2 _ h4))
    · simp only [e, wD_some, isB_bl, Bool.not_false, if_true]
      rw [w_sRet, w_eC]
      refine no rfl fun ⟨ls, h, _⟩ => ?_
      subst h
      cases e
  obtain ⟨d, h1, b, rfl, h2⟩ := wD_ex key
  exact ⟨b, h1, h2⟩
end Fw
/-! ## U5 -/
set_option linter.all false
set_option maxRecDepth 100000
set_option maxHeartbeats 1000000
/-! Ways, the ring with a road. -/
namespace Fw
open PySem PySem.Spec PyProof.Rows L2
/-- a way from c to k that meets no crossing twice, all within ks -/
structure PthIn (G : Nt) (t : List Nat) (c k : Nat) (es ks : List Nat) : Prop where
  lt : ∀ e ∈ es, e < G.roads.length
  ch : tls G t es ++ [k] = c :: hds G t es
  nd : (tls G t es ++ [k]).Nodup
  ins : ∀ x ∈ tls G t es ++ [k], x ∈ ks
theorem PthIn.nil {G : Nt} {t : List Nat} {c : Nat} : PthIn G t c c [] [c] := ⟨fun e h => by simp at h, rfl, by simp [tls], fun x h => h⟩
theorem PthIn.mono {G : Nt} {t : List Nat} {c k : Nat} {es ks ks' : List Nat} (h : PthIn G t c k es ks) (hs : ∀ x ∈ ks, x ∈ ks') : PthIn G t c k es ks' := ⟨h.lt, h.ch, h.nd, fun x hx => hs x (h.ins x hx)⟩
theorem PthIn.snoc {G : Nt} {t : List Nat} {c k : Nat} {es ks : List Nat} (h : PthIn G t c k es ks) {r : Nat} (hr : r < G.roads.length) (hk : G.tail t r = k) (hn : G.head t r ∉ ks) : PthIn G t c (G.head t r) (es ++ [r]) (ks ++ [G.head t r]) := by
  have e1 : tls G t (es ++ [r]) = tls G t es ++ [k] := by unfold tls; rw [List.map_append, List.map_cons, List.map_nil, hk]
  have e2 : hds G t (es ++ [r]) = hds G t es ++ [G.head t r] := by unfold hds; rw [List.map_append]; rfl
  refine ⟨fun e he => ?_, ?_, ?_, fun x hx => ?_⟩
  · rcases List.mem_append.mp he with he | he
    · exact h.lt e he
    · rw [List.mem_singleton.mp he]; exact hr
  · rw [e1, e2, h.ch]; rfl
  · rw [e1]
    exact nodup_snoc h.nd fun hx => hn (h.ins _ hx)
  · rw [e1] at hx
    rcases List.mem_append.mp hx with hx | hx
    · exact List.mem_append_left _ (h.ins x hx)
    · exact List.mem_append_right _ hx
structure Vy (G : Nt) (t : List Nat) (c : Nat) (l : List (Nat × List Nat)) (late : List Nat) : Prop where
  met : Met G t c (l.map (·.1))
  sub : ∀ k ∈ late, k ∈ l.map (·.1)
  cl : ∀ r, r < G.roads.length → G.tail t r ∈ l.map (·.1) → G.tail t r ∉ late → G.head t r ∈ l.map (·.1)
  vl : ∀ p ∈ l, p.2.length + 1 ≤ l.length
  pt : ∀ p ∈ l, PthIn G t c p.1 p.2 (l.map (·.1))
structure Vi (G : Nt) (t : List Nat) (c : Nat) (K0 here : List Nat) (l : List (Nat × List Nat)) (late : List Nat) (j : Nat) : Prop where
  met : Met G t c (l.map (·.1))
  ks : l.map (·.1) = K0 ++ late
  hs : ∀ k ∈ here, k ∈ K0
  c1 : ∀ r, r < G.roads.length → G.tail t r ∈ K0 → G.tail t r ∉ here → G.head t r ∈ l.map (·.1)
  c2 : ∀ r, r < j → G.tail t r ∈ here → G.head t r ∈ l.map (·.1)
  vl : ∀ p ∈ l, p.2.length + 1 ≤ l.length
  pt : ∀ p ∈ l, PthIn G t c p.1 p.2 (l.map (·.1))
theorem ev_ways2 {G : Nt} (hG : G.Ok) {t : List Nat} (h : Tn G t) {c : Nat} (hc : c < G.n) : ∃ l : List (Nat × List Nat), m_ways_from [G.d, tD t, .int c] = some (.dct (kd fw l)) ∧ Vy G t c l [] := by
  have key : wD (m_ways_from [G.d, tD t, .int c]) fun d => ∃ l : List (Nat × List Nat), d = .dct (kd fw l) ∧ Vy G t c l [] := by
    refine run_P rfl ?_
    unfold m_ways_fromB
    show wS _ [some (.sh G.d), some (.sh (tD t)), some (.sh (.int c)), none, none, none, none, none, none] () _
    have hn := hG.n2
    have hm := hG.m
    rw [w_sSeq, w_sPar, w_qNew, w_eD1]
    simp only [↓w_eTup0, ↓w_qNew, ↓w_qNil, ↓w_eLst1, ↓v2]
    have ek : key? (.int (c : Int)) = some (.inl (c : Int)) := rfl
    rw [ek, wD_some]
    simp only [List.length_cons, List.length_nil, if_true, wD_some]
    show wS _ [some (.sh G.d), some (.sh (tD t)), some (.sh (.int c)), some (.ow (.dct (kd fw [(c, [])]))), some (.ow (.lst (nats [c]))), none, none, none, none] () _
    rw [w_sSeq]
    have w0 : Vy G t c [(c, [])] [c] := ⟨Met.one G t c, fun k hk => hk, fun r _ h1 h2 => absurd h1 h2, fun p hp => by rw [List.mem_singleton.mp hp]; exact Nat.le_refl _, fun p hp => by rw [List.mem_singleton.mp hp]; exact PthIn.nil⟩
    refine w_sWh (n := 2 * (G.n - 1) + 1) (fun n ρ _ => ∃ l late, n = mu G.n l late ∧ Vy G t c l late ∧ ρ = [some (.sh G.d), some (.sh (tD t)), none, some (.ow (.dct (kd fw l))), some (.ow (.lst (nats late))), none, none, none, none]) (by omega) ⟨_, _, rfl, w0, rfl⟩ ?_
    rintro n ρ s ⟨l, late, rfl, W, rfl⟩
    rw [w_tE, v_eBL]
    simp only [List.getElem?_cons_zero, List.getElem?_cons_succ, slotX_ow]
    rw [w_eLst0]
    simp only [List.getElem?_cons_zero, List.getElem?_cons_succ, slotX_ow, o_neNilL, wD_some, isB_bl]
    cases late with
    | nil =>
      simp only [List.isEmpty_nil, Bool.not_true, Bool.false_eq_true, if_false]
      show wS _ _ _ _
      rw [w_sRet, v_eV]
      show ∃ l : List (Nat × List Nat), _
      exact ⟨l, rfl, W⟩
    | cons k0 late0 =>
      simp only [List.isEmpty_cons, Bool.not_false, if_true]
      generalize hlate : k0 :: late0 = late at *
      have hne : late ≠ [] := by rw [← hlate]; exact List.cons_ne_nil _ _
      rw [w_sSeq, w_sPar, w_qSh, v_eV]
      simp only [List.getElem?_cons_zero, List.getElem?_cons_succ, slotE_ow]
      rw [w_qNew, w_eLst0, w_qNil]
      simp only [List.length_cons, List.length_nil, if_true, wD_some]
      show wS _ [some (.sh G.d), some (.sh (tD t)), none, some (.ow (.dct (kd fw l))), some (.ow (.lst (nats []))), some (.sh (.lst (nats late))), none, none, none] () _
      refine w_sFor ?_
      rw [w_iR1]
      simp only [↓w_e1, ↓w_e2, ↓w_eC, ↓v0]
      simp only [o_roads, dLen, List.length_map, wD_some, isI_int]
      rw [if_pos (by omega), wD_some, Int.toNat_natCast, rangeL_nats]
      have i0 : Vi G t c (l.map (·.1)) late l [] 0 := ⟨W.met, (List.append_nil _).symm, W.sub, fun r hr h1 h2 => W.cl r hr h1 h2, fun r hr => absurd hr (Nat.not_lt_zero _), W.vl, W.pt⟩
      refine ⟨fun j ρ _ => ∃ l' late', Vi G t c (l.map (·.1)) late l' late' j ∧ ρ = [some (.sh G.d), some (.sh (tD t)), none, some (.ow (.dct (kd fw l'))), some (.ow (.lst (nats late'))), some (.sh (.lst (nats late))), none, none, none], ⟨l, [], i0, rfl⟩, ?_, ?_⟩
      · rintro j d ρ s hd ⟨l', late', I, rfl⟩
        obtain ⟨rfl, hj⟩ := take_succ_range hd
        refine ⟨_, rfl, ?_⟩
        show wS _ [some (.sh G.d), some (.sh (tD t)), none, some (.ow (.dct (kd fw l'))), some (.ow (.lst (nats late'))), some (.sh (.lst (nats late))), some (.sh (.int j)), none, none] () _
        rw [w_sSeq, w_sPar]
        simp only [↓w_qSh, ↓w_qNil, ↓w_eCallP, ↓w_aCons, ↓w_aNil, ↓v0, ↓v1, ↓v6]
        simp only [ev_tail_of h hj, ev_head_of h hj, wD_some, List.length_cons, List.length_nil, if_true]
        show wS _ [some (.sh G.d), some (.sh (tD t)), none, some (.ow (.dct (kd fw l'))), some (.ow (.lst (nats late'))), some (.sh (.lst (nats late))), some (.sh (.int j)), some (.sh (.int (G.tail t j))), some (.sh (.int (G.head t j)))] () _
        rw [w_sIf, w_tAnd, w_tE]
        simp only [↓w_e2, ↓v5, ↓v7]
        rw [o_inN late _ (.inl rfl), wD_some, isB_bl]
        have done : (G.tail t j ∈ late → G.head t j ∈ l'.map (·.1)) → Vi G t c (l.map (·.1)) late l' late' (j + 1) := fun hh =>
          ⟨I.met, I.ks, I.hs, I.c1, fun r hr h1 => by
            by_cases e : r < j
            · exact I.c2 r e h1
            · have : r = j := by omega
              subst this
              exact hh h1, I.vl, I.pt⟩
        by_cases ht : G.tail t j ∈ late
        · rw [decide_eq_true ht, if_pos rfl, w_tE, v_eBR]
          simp only [↓v8]
          simp only [List.getElem?_cons_zero, List.getElem?_cons_succ, slotX_ow, o_knin, wD_some, isB_bl]
          by_cases hh : G.head t j ∈ l'.map (·.1)
          · rw [decide_eq_true hh]
            simp only [Bool.not_true, Bool.false_eq_true, if_false]
            rw [w_sNx]
            exact ⟨l', late', done fun _ => hh, rfl⟩
          · rw [decide_eq_false hh]
            simp only [Bool.not_false, if_true]
            have htk : G.tail t j ∈ l'.map (·.1) := by rw [I.ks]; exact List.mem_append_left _ (I.hs _ ht)
            obtain ⟨es, hes, eg⟩ := o_kget htk
            have hle := I.met.le hG hc
            rw [List.length_map] at hle
            have hvl : es.length + 1 ≤ l'.length := I.vl _ hes
            rw [w_sSeq]
            refine i_putK (kvs := kd fw l') rfl ?_
            rw [w_eTup, w_aStar, v_eBL]
            simp only [List.getElem?_cons_zero, List.getElem?_cons_succ, slotX_ow]
            simp only [↓w_aCons, ↓w_aNil, ↓v6, ↓v7]
            simp only [List.getElem?_cons_zero, List.getElem?_cons_succ, slotX_ow, eg, wD_some]
            have i3 : items? (.tup (nats es)) = some (nats es) := rfl
            have en : nats es ++ [D.int j] = nats (es ++ [j]) := by unfold nats; rw [List.map_append]; rfl
            rw [i3, wD_some, en, if_pos (by show (nats _).length ≤ 16777216; rw [List.length_map, List.length_append]; simp; omega), wD_some]
            refine ⟨by trivial, ?_⟩
            rw [v8]
            have e2 : key? (.int (G.head t j : Int)) = some (.inl (G.head t j : Int)) := rfl
            refine ⟨rfl, ?_⟩
            rw [e2, wD_some]
            have e3 := kd_new fw (v := es ++ [j]) hh
            rw [show (D.tup (nats (es ++ [j]))) = fw (es ++ [j]) from rfl, e3]
            refine ⟨by rw [kd_len]; show _ < 16777216; omega, ?_⟩
            show wS _ [some (.sh G.d), some (.sh (tD t)), none, some (.ow (.dct (kd fw (l' ++ [(G.head t j, es ++ [j])])))), some (.ow (.lst (nats late'))), some (.sh (.lst (nats late))), some (.sh (.int j)), some (.sh (.int (G.tail t j))), some (.sh (.int (G.head t j)))] () _
            rw [w_sDrop]
            refine w_eApp (ds := nats late') rfl ?_
            rw [v8]
            have en2 : nats late' ++ [D.int (G.head t j)] = nats (late' ++ [G.head t j]) := by unfold nats; rw [List.map_append]; rfl
            have hll : late'.length ≤ l'.length := by
              have := congrArg List.length I.ks
              rw [List.length_map, List.length_append] at this
              omega
            refine ⟨rfl, by show (nats _).length < 16777216; rw [List.length_map]; omega, ?_⟩
            rw [en2]
            refine ⟨l' ++ [(G.head t j, es ++ [j])], late' ++ [G.head t j], ?_, rfl⟩
            have ekeys : (l' ++ [(G.head t j, es ++ [j])]).map (·.1) = l'.map (·.1) ++ [G.head t j] := by rw [List.map_append]; rfl
            refine ⟨?_, ?_, I.hs, fun r hr h1 h2 => ?_, fun r hr h1 => ?_, fun p hp => ?_, fun p hp => ?_⟩
            · rw [ekeys]
              exact I.met.snoc (.step (I.met.rc _ htk) hj) hh
            · rw [ekeys, I.ks, List.append_assoc]
            · rw [ekeys]
              exact List.mem_append_left _ (I.c1 r hr h1 h2)
            · rw [ekeys]
              by_cases e : r < j
              · exact List.mem_append_left _ (I.c2 r e h1)
              · have : r = j := by omega
                subst this
                exact List.mem_append_right _ (List.mem_singleton.mpr rfl)
            · rw [List.length_append, List.length_cons, List.length_nil]
              rcases List.mem_append.mp hp with hp | hp
              · have := I.vl p hp; omega
              · rw [List.mem_singleton.mp hp]
                show (es ++ [j]).length + 1 ≤ _
                rw [List.length_append, List.length_cons, List.length_nil]
                omega
            · rw [ekeys]
              rcases List.mem_append.mp hp with hp | hp
              · exact (I.pt p hp).mono fun x hx => List.mem_append_left _ hx
              · rw [List.mem_singleton.mp hp]
                exact (I.pt _ hes).snoc hj rfl hh
        · rw [decide_eq_false ht, if_neg Bool.false_ne_true]
          simp only [Bool.false_eq_true, if_false]
          rw [w_sNx]
          exact ⟨l', late', done fun z => absurd z ht, rfl⟩
      · rintro ρ s ⟨l', late', I, rfl⟩
        rw [List.length_map, List.length_range] at I
        have hle := I.met.le hG hc
        rw [List.length_map] at hle
        have hkk := congrArg List.length I.ks
        rw [List.length_map, List.length_append, List.length_map] at hkk
        refine ⟨mu G.n l' late', ?_, l', late', rfl, ⟨I.met, fun k hk => by rw [I.ks]; exact List.mem_append_right _ hk, fun r hr h1 h2 => ?_, I.vl, I.pt⟩, rfl⟩
        · unfold mu
          rw [if_neg hne]
          by_cases e : late' = []
          · subst e
            rw [if_pos rfl]
            simp only [List.length_nil] at hkk
            omega
          · rw [if_neg e]
            have : 0 < late'.length := List.length_pos_iff.mpr e
            omega
        · rw [I.ks] at h1
          rcases List.mem_append.mp h1 with q | q
          · by_cases hh : G.tail t r ∈ late
            · exact I.c2 r hr hh
            · exact I.c1 r hr q hh
          · exact absurd q h2
  obtain ⟨d, h1, l, rfl, W⟩ := wD_ex key
  exact ⟨l, h1, W⟩
end Fw
/-! ## U6 -/
set_option linter.all false
set_option maxRecDepth 100000
set_option maxHeartbeats 1000000
/-! The told paper. -/
namespace Fw
open PySem PySem.Spec PyProof.Rows L2
/-! ### turned to the least -/
def rotk (k : Nat) (l : List Nat) : List Nat := l.drop k ++ l.take k
theorem rotk_succ {k : Nat} {l : List Nat} (h : k < l.length) : rotk (k + 1) l = rot1 (rotk k l) := by
  unfold rotk rot1
  rw [List.drop_eq_getElem_cons h, List.cons_append, List.drop_succ_cons, List.drop_zero, List.take_succ_cons, List.take_zero, List.append_assoc, List.take_succ, List.getElem?_eq_getElem h]
  rfl
structure RingQ (G : Nt) (t es : List Nat) : Prop where
  ne : es ≠ []
  lt : ∀ e ∈ es, e < G.roads.length
  nd : (tls G t es).Nodup
  ch : hds G t es = rot1 (tls G t es)
theorem rot1_perm (l : List Nat) : (rot1 l).Perm l := by
  unfold rot1
  exact List.perm_append_comm.trans (by rw [List.take_append_drop])
theorem rot1_map {f : Nat → Nat} (l : List Nat) : (rot1 l).map f = rot1 (l.map f) := by
  unfold rot1
  rw [List.map_append, List.map_drop, List.map_take]
theorem RingQ.rot {G : Nt} {t es : List Nat} (h : RingQ G t es) : RingQ G t (rot1 es) := by
  have hp := rot1_perm es
  refine ⟨fun e => h.ne ?_, fun e he => h.lt e (hp.mem_iff.mp he), ?_, ?_⟩
  · rw [e] at hp
    exact hp.symm.eq_nil
  · unfold tls
    exact ((hp.map _).nodup_iff).mpr h.nd
  · unfold hds tls
    rw [rot1_map, rot1_map]
    exact congrArg rot1 h.ch
theorem rotk_zero (l : List Nat) : rotk 0 l = l := by unfold rotk; simp
theorem RingQ.rotk {G : Nt} {t es : List Nat} (h : RingQ G t es) : ∀ k, k ≤ es.length → RingQ G t (rotk k es)
  | 0, _ => by rw [rotk_zero]; exact h
  | k + 1, hk => by
    rw [rotk_succ (by omega)]
    exact (RingQ.rotk h k (by omega)).rot
theorem rotk_perm {k : Nat} (l : List Nat) : (rotk k l).Perm l := by
  unfold rotk
  exact List.perm_append_comm.trans (by rw [List.take_append_drop])
theorem idxOf_cast (l : List Nat) (m : Nat) : (l.map fun (x : Nat) => (x : Int)).idxOf (m : Int) = l.idxOf m := by
  induction l with
  | nil => rfl
  | cons x r ih =>
    have e : ((x : Int) == (m : Int)) = (x == m) := by
      by_cases h : x = m
      · subst h; rw [beq_self_eq_true, beq_self_eq_true]
      · rw [beq_false_of_ne h, beq_false_of_ne (fun z => h (by omega))]
    rw [List.map_cons, List.idxOf_cons, List.idxOf_cons, ih, e]
theorem ev_from_least {G : Nt} {t es : List Nat} (h : RingQ G t es) (hl : es.length ≤ 1000) : ∃ fs, m_from_least [tD es] = some (tD fs) ∧ RingP G t fs ∧ (∀ e, e ∈ fs ↔ e ∈ es) ∧ fs.length = es.length := by
  obtain ⟨m, em, m1, m2⟩ := o_minN h.ne
  have e1 : ints? (nats es) = some (es.map fun (x : Nat) => (x : Int)) := ints_nats es
  have hne : (es.map fun (x : Nat) => (x : Int)) ≠ [] := fun z => h.ne (List.map_eq_nil_iff.mp z)
  have hmin : minL (es.map fun (x : Nat) => (x : Int)) = (m : Int) := by
    have hp : 0 < (es.map fun (x : Nat) => (x : Int)).length := List.length_pos_iff.mpr hne
    refine Int.le_antisymm (minL_le (List.mem_map.mpr ⟨m, m1, rfl⟩)) ?_
    obtain ⟨k, hk1, hk2⟩ := List.mem_map.mp (minL_mem hp)
    have := m2 k hk1
    rw [← hk2]
    omega
  have hj : es.idxOf m < es.length := List.idxOf_lt_length_of_mem m1
  have hR := h.rotk (es.idxOf m) (by omega)
  have hmem : ∀ e, e ∈ rotk (es.idxOf m) es ↔ e ∈ es := fun e => (rotk_perm es).mem_iff
  refine ⟨rotk (es.idxOf m) es, ?_, ⟨hR.ne, hR.lt, fun e he => ?_, hR.nd, hR.ch⟩, hmem, (rotk_perm es).length_eq⟩
  · show (ints? (nats es)).bind _ = _
    rw [e1, Option.bind_some, if_neg hne, if_neg (by rw [List.length_map]; omega)]
    unfold turnTo
    rw [hmin, idxOf_cast]
    unfold tD rotk nats
    rw [← List.map_drop, ← List.map_take, ← List.map_append, List.map_map]
    rfl
  · have h0 : (rotk (es.idxOf m) es).getD 0 0 = m := by
      unfold rotk
      rw [List.drop_eq_getElem_cons hj]
      show es[es.idxOf m] = m
      exact List.getElem_idxOf hj
    rw [h0]
    exact m2 e ((hmem e).mp he)
/-! ### the ring with a road -/
theorem ring_of {G : Nt} {t : List Nat} {r : Nat} (hr : r < G.roads.length) {es ks : List Nat} (h : PthIn G t (G.head t r) (G.tail t r) es ks) : RingQ G t (r :: es) := by
  have e1 : tls G t (r :: es) = G.tail t r :: tls G t es := rfl
  have e2 : hds G t (r :: es) = G.head t r :: hds G t es := rfl
  refine ⟨List.cons_ne_nil _ _, fun e he => ?_, ?_, ?_⟩
  · rcases List.mem_cons.mp he with rfl | he
    · exact hr
    · exact h.lt e he
  · rw [e1]
    have := h.nd
    rw [List.nodup_append] at this
    obtain ⟨n1, _, n3⟩ := this
    exact List.nodup_cons.mpr ⟨fun hx => n3 _ hx _ (List.mem_singleton.mpr rfl) rfl, n1⟩
  · rw [e2, ← h.ch, e1]
    rfl
theorem ev_ring_with {G : Nt} (hG : G.Ok) {t : List Nat} (ht : Tn G t) {r : Nat} (hr : r < G.roads.length) :
    (Rch G t (G.head t r) (G.tail t r) ∧ ∃ fs, m_ring_with [G.d, tD t, .int r] = some (tD fs) ∧ RingP G t fs ∧ r ∈ fs ∧ fs.length ≤ 30) ∨ (¬ Rch G t (G.head t r) (G.tail t r) ∧ m_ring_with [G.d, tD t, .int r] = some .non) := by
  have hc := hG.head_lt (t := t) hr
  have hn := hG.n2
  obtain ⟨l, ew, W⟩ := ev_ways2 hG ht hc
  have L : Led G t (G.head t r) (l.map (·.1)) := .of W.met.nd W.met.hc W.met.rc fun r hr h1 => W.cl r hr h1 (by simp)
  have hle := W.met.le hG hc
  rw [List.length_map] at hle
  have start : ∀ d, wS (sRet (eIf (tE (e2 dKIn (eV 4) (eV 3))) (eCallP m_from_least (aCons (eTup (aCons (eV 2) (aStar (e2 dKGet (eV 3) (eV 4)) aNil))) aNil)) (eC .non))) [some (.sh G.d), some (.sh (tD t)), some (.sh (.int r)), some (.sh (.dct (kd fw l))), some (.sh (.int (G.tail t r)))] () (fun c _ _ => c = .rt d) → m_ring_with [G.d, tD t, .int r] = some d := fun d h => by
    refine wD_eq (run_P rfl ?_)
    unfold m_ring_withB
    show wS _ [some (.sh G.d), some (.sh (tD t)), some (.sh (.int r)), none, none] () _
    rw [w_sSeq, w_sAsg]
    simp only [↓w_eCallP, ↓w_aCons, ↓w_aNil, ↓v0, ↓v1, ↓v2]
    rw [ev_head_of ht hr, wD_some, ew, wD_some]
    show wS _ [some (.sh G.d), some (.sh (tD t)), some (.sh (.int r)), some (.sh (.dct (kd fw l))), none] () _
    rw [w_sSeq, w_sAsg]
    simp only [↓w_eCallP, ↓w_aCons, ↓w_aNil, ↓v0, ↓v1, ↓v2]
    rw [ev_tail_of ht hr, wD_some]
    refine wS_mono h fun c ρ s hc => ?_
    rw [hc]
  have eIn : dKIn (.int (G.tail t r)) (.dct (kd fw l)) = some (.bl (decide (G.tail t r ∈ l.map (·.1)))) := by
    have := o_knin l (G.tail t r)
    have e : key? (.int (G.tail t r : Int)) = some (.inl (G.tail t r : Int)) := rfl
    show (key? (.int (G.tail t r))).map (fun j => D.bl (dval (kd fw l) j).isSome) = _
    rw [e, Option.map_some]
    by_cases h : G.tail t r ∈ l.map (·.1)
    · obtain ⟨v, _, hv⟩ := kd_some fw h
      rw [hv, decide_eq_true h]; rfl
    · rw [kd_none fw h, decide_eq_false h]; rfl
  by_cases hin : G.tail t r ∈ l.map (·.1)
  · left
    refine ⟨(L.eq _).mp hin, ?_⟩
    obtain ⟨es, hes, eg⟩ := o_kget hin
    have hp := W.pt _ hes
    have hvl := W.vl _ hes
    have hvl' : es.length + 1 ≤ l.length := hvl
    obtain ⟨fs, f1, f2, f3, f4⟩ := ev_from_least (ring_of hr hp) (by simp; omega)
    refine ⟨fs, start _ ?_, f2, (f3 r).mpr (List.mem_cons_self ..), by rw [f4, List.length_cons]; omega⟩
    rw [w_sRet, w_eIf, w_tE]
    simp only [↓w_e2, ↓v3, ↓v4]
    rw [eIn, wD_some, isB_bl, decide_eq_true hin, if_pos rfl, w_eCallP, w_aCons, w_eTup]
    simp only [↓w_aCons, ↓w_aStar, ↓w_aNil, ↓w_e2, ↓v2, ↓v3, ↓v4]
    rw [eg, wD_some, show items? (.tup (nats es)) = some (nats es) from rfl, wD_some]
    have en : (D.int (r : Int) :: (nats es ++ [])) = nats (r :: es) := by rw [List.append_nil]; rfl
    rw [en, if_pos (by show _ ≤ 16777216; rw [List.length_map, List.length_cons]; omega), wD_some, show D.tup (nats (r :: es)) = tD (r :: es) from rfl, f1, wD_some]
  · right
    refine ⟨fun h => hin ((L.eq _).mpr h), start _ ?_⟩
    rw [w_sRet, w_eIf, w_tE]
    simp only [↓w_e2, ↓v3, ↓v4]
    rw [eIn, wD_some, isB_bl, decide_eq_false hin, if_neg Bool.false_ne_true, w_eC]
/-- a right ring leads from each road's head back to its tail -/
theorem ring_rch {G : Nt} (hG : G.Ok) {t es : List Nat} (h : RingP G t es) {r : Nat} (hr : r ∈ es) : Rch G t (G.head t r) (G.tail t r) := by
  have hc := hG.head_lt (t := t) (h.lt r hr)
  have L := laps_led hG (t := t) hc
  rw [← L.eq]
  have hS : Shut G t (laps G t G.n (G.head t r)) := fun e he hx => (L.eq _).mpr (.step ((L.eq _).mp hx) he)
  generalize laps G t G.n (G.head t r) = ks at L hS
  obtain ⟨a, b⟩ := filter_le (p := fun e => decide (G.tail t e ∈ ks)) (q := fun e => decide (G.head t e ∈ ks)) (l := es) fun e he hx => decide_eq_true (hS e (h.lt e he) (of_decide_eq_true hx))
  have e1 : (es.filter fun e => decide (G.tail t e ∈ ks)).length = ((tls G t es).filter fun x => decide (x ∈ ks)).length := by
    unfold tls; rw [List.filter_map, List.length_map]; rfl
  have e2 : (es.filter fun e => decide (G.head t e ∈ ks)).length = ((hds G t es).filter fun x => decide (x ∈ ks)).length := by
    unfold hds; rw [List.filter_map, List.length_map]; rfl
  have e3 : ((hds G t es).filter fun x => decide (x ∈ ks)).length = ((tls G t es).filter fun x => decide (x ∈ ks)).length := by
    rw [h.ch]
    exact ((rot1_perm _).filter _).length_eq
  have := b.mp (by rw [e1, e2, e3]) r hr (decide_eq_true ((L.eq _).mpr .refl))
  exact of_decide_eq_true this
/-! ### the lot that is led to -/
theorem led_lt' {G : Nt} (hG : G.Ok) {t : List Nat} {c : Nat} (hc : c < G.n) : ∀ d ∈ led G t c, d < G.n := fun d hd => ((mem_led hG hc).mp hd).lt hG hc
theorem led_asc {G : Nt} (hG : G.Ok) {t : List Nat} {c : Nat} (hc : c < G.n) : asc (led G t c) = true := by
  have hs : (ledI (laps G t G.n c)).Pairwise (· ≤ ·) := (List.pairwise_mergeSort leI_tr leI_tot _).imp fun h => of_decide_eq_true h
  have hnd : (ledI (laps G t G.n c)).Nodup := by
    have : (ledI (laps G t G.n c)).Perm ((laps G t G.n c).map fun (k : Nat) => (k : Int)) := List.mergeSort_perm _ _
    rw [this.nodup_iff]
    have hl := (laps_met G t c G.n).nd
    unfold List.Nodup at hl ⊢
    rw [List.pairwise_map]
    exact hl.imp fun h e => h (by omega)
  rw [← led_cast] at hs hnd
  unfold asc
  rw [List.all_eq_true]
  intro k hk
  have hk := List.mem_range.mp hk
  have h1 : k < (led G t c).length := by omega
  have h2 : k + 1 < (led G t c).length := by omega
  rw [List.getD_eq_getElem?_getD, List.getD_eq_getElem?_getD, List.getElem?_eq_getElem h1, List.getElem?_eq_getElem h2]
  simp only [Option.getD_some, decide_eq_true_eq]
  have a1 := List.pairwise_iff_getElem.mp hs k (k + 1) (by rw [List.length_map]; exact h1) (by rw [List.length_map]; exact h2) (by omega)
  have a2 := List.pairwise_iff_getElem.mp hnd k (k + 1) (by rw [List.length_map]; exact h1) (by rw [List.length_map]; exact h2) (by omega)
  rw [List.getElem_map, List.getElem_map] at a1 a2
  have : (led G t c)[k] ≠ (led G t c)[k + 1] := fun e => a2 (by rw [e])
  omega
theorem led_shut {G : Nt} (hG : G.Ok) {t : List Nat} {c : Nat} (hc : c < G.n) : Shut G t (led G t c) := fun r hr h => (mem_led hG hc).mpr (.step ((mem_led hG hc).mp h) hr)
/-- a right paper -/
def Good (G : Nt) (t : List Nat) (r : Nat) (v : D) : Prop :=
  (∃ es, v = .tup [.str "ring", tD es] ∧ RingP G t es ∧ r ∈ es) ∨
  ∃ ls, v = .tup [.str "lot", tD ls] ∧ (∀ x ∈ ls, x < G.n) ∧ asc ls = true ∧ Shut G t ls ∧ G.head t r ∈ ls ∧ G.tail t r ∉ ls
theorem ev_stiff {G : Nt} (hG : G.Ok) {t : List Nat} (ht : Tn G t) {r : Nat} (hr : r < G.roads.length) :
    (Rch G t (G.head t r) (G.tail t r) ∧ ∃ fs, m_stiff_paper [G.d, tD t, .int r] = some (.tup [.str "ring", tD fs]) ∧ Good G t r (.tup [.str "ring", tD fs]) ∧ fs.length ≤ 30 ∧ ∀ x ∈ fs, x ≤ 1000) ∨
    (¬ Rch G t (G.head t r) (G.tail t r) ∧ ∃ ls, m_stiff_paper [G.d, tD t, .int r] = some (.tup [.str "lot", tD ls]) ∧ Good G t r (.tup [.str "lot", tD ls]) ∧ ls.length ≤ 30 ∧ ∀ x ∈ ls, x ≤ 1000) := by
  have hc := hG.head_lt (t := t) hr
  have hn := hG.n2
  have hm := hG.m
  have start : ∀ w d, m_ring_with [G.d, tD t, .int r] = some w → wS (sRet (eIf (tE (e1 dNotN (eV 3))) (eTup (aCons (eC (.str "ring")) (aCons (eV 3) aNil))) (eTup (aCons (eC (.str "lot")) (aCons (eCallP m_led_from (aCons (eV 0) (aCons (eV 1) (aCons (eCallP m_head_of (aCons (eV 0) (aCons (eV 1) (aCons (eV 2) aNil)))) aNil)))) aNil))))) [some (.sh G.d), some (.sh (tD t)), some (.sh (.int r)), some (.sh w)] () (fun c _ _ => c = .rt d) → m_stiff_paper [G.d, tD t, .int r] = some d := fun w d hw h => by
    refine wD_eq (run_P rfl ?_)
    unfold m_stiff_paperB
    show wS _ [some (.sh G.d), some (.sh (tD t)), some (.sh (.int r)), none] () _
    rw [w_sSeq, w_sAsg]
    simp only [↓w_eCallP, ↓w_aCons, ↓w_aNil, ↓v0, ↓v1, ↓v2]
    rw [hw, wD_some]
    refine wS_mono h fun c ρ s hc => ?_
    rw [hc]
  rcases ev_ring_with hG ht hr with ⟨h1, fs, f1, f2, f3, f4⟩ | ⟨h1, f1⟩
  · left
    refine ⟨h1, fs, start _ _ f1 ?_, .inl ⟨fs, rfl, f2, f3⟩, f4, fun x hx => by have := f2.lt x hx; omega⟩
    rw [w_sRet, w_eIf, w_tE]
    simp only [↓w_e1, ↓v3]
    rw [show dNotN (tD fs) = some (.bl true) from rfl, wD_some, isB_bl, if_pos rfl]
    simp only [↓w_eTup2, ↓w_eC, ↓v3]
  · right
    have hL := led_len hG (t := t) hc
    refine ⟨h1, led G t (G.head t r), start _ _ f1 ?_, .inr ⟨_, rfl, led_lt' hG hc, led_asc hG hc, led_shut hG hc, (mem_led hG hc).mpr .refl, fun h => h1 ((mem_led hG hc).mp h)⟩, by omega, fun x hx => by have := led_lt' hG hc x hx; omega⟩
    rw [w_sRet, w_eIf, w_tE]
    simp only [↓w_e1, ↓v3]
    rw [show dNotN .non = some (.bl false) from rfl, wD_some, isB_bl, if_neg Bool.false_ne_true]
    simp only [↓w_eTup2, ↓w_eC, ↓w_eCallP, ↓w_aCons, ↓w_aNil, ↓v0, ↓v1, ↓v2]
    rw [ev_head_of ht hr, wD_some, ev_led_from hG ht hc, wD_some]
end Fw
/-! ## U7 -/
set_option linter.all false
set_option maxRecDepth 100000
set_option maxHeartbeats 1000000
/-! The first fault: the def, the law. -/
namespace Fw
open PySem PySem.Spec PyProof.Rows L2
def RingV (G : Nt) (t : List Nat) (v : D) : Prop := ∃ es, v = .tup [.str "ring", tD es] ∧ RingP G t es
def LotV (G : Nt) (v : D) : Prop := ∃ ls, v = .tup [.str "lot", tD ls] ∧ (∀ x ∈ ls, x < G.n) ∧ asc ls = true
def TightV (G : Nt) (t : List Nat) (v : D) : Prop := ∃ ls, v = .tup [.str "lot", tD ls] ∧ Shut G t ls
def dForm : D := .tup [.str "form"]
def dRoadF : D := .tup [.str "road"]
def dTight : D := .tup [.str "tight"]
open Classical in
noncomputable def faultD (G : Nt) (t : List Nat) (r : Nat) (v : D) : D :=
  if RingV G t v then (if Good G t r v then .non else dRoadF) else if LotV G v then (if TightV G t v then (if Good G t r v then .non else dRoadF) else dTight) else dForm
theorem eqOk_str {x : Str} (h : PyData.strOk x = true) : D.eqOk (.str x) = true := by
  unfold D.eqOk
  rw [show D.pure (.str x) = true from rfl, Bool.true_and]
  simp [D.py, SeqAt.shaped]
  exact ⟨by simp [PyData.canLay0, h], by simp [PyData.depth]⟩
theorem eqv_str (x y : Str) : D.eqv (.str x) (.str y) = (x == y) := by
  simp [D.eqv, D.py, PyData.eqv]
theorem o_eqS {x y : Str} {b : Bool} (hx : PyData.strOk x = true) (hy : PyData.strOk y = true) (h : (x == y) = b) : dEq (.str x) (.str y) = some (.bl b) := by
  unfold dEq
  rw [if_pos ⟨eqOk_str hx, eqOk_str hy⟩, eqv_str, h]
theorem o_neS {x y : Str} {b : Bool} (hx : PyData.strOk x = true) (hy : PyData.strOk y = true) (h : (x == y) = b) : dNe (.str x) (.str y) = some (.bl !b) := by
  unfold dNe
  rw [if_pos ⟨eqOk_str hx, eqOk_str hy⟩, eqv_str, h]
theorem str_ne {a b : String} (h : (Str.ofString a) ≠ Str.ofString b) : True := trivial
theorem pair_inj {a b : Str} {x y : D} (h : D.tup [.str a, x] = .tup [.str b, y]) : a = b ∧ x = y := by
  have := D.tup.inj h
  simp only [List.cons.injEq, D.str.injEq, and_true] at this
  exact this
theorem rl_ne : ¬ ((Str.ofString "ring") = Str.ofString "lot") := by decide
theorem fault_form {G : Nt} {t : List Nat} {r : Nat} {v : D} (h1 : ¬ RingV G t v) (h2 : ¬ LotV G v) : faultD G t r v = dForm := by
  unfold faultD
  rw [if_neg h1, if_neg h2]
theorem fault_ring {G : Nt} {t : List Nat} {r : Nat} {es : List Nat} (h : RingP G t es) : faultD G t r (.tup [.str "ring", tD es]) = if r ∈ es then .non else dRoadF := by
  unfold faultD
  rw [if_pos ⟨es, rfl, h⟩]
  by_cases hr : r ∈ es
  · rw [if_pos hr, if_pos (.inl ⟨es, rfl, h, hr⟩)]
  · rw [if_neg hr, if_neg]
    rintro (⟨es', e, _, hr'⟩ | ⟨ls, e, _⟩)
    · rw [← tD_inj (pair_inj e).2] at hr'
      exact hr hr'
    · exact rl_ne (pair_inj e).1
theorem fault_tight {G : Nt} {t : List Nat} {r : Nat} {ls : List Nat} (h1 : ∀ x ∈ ls, x < G.n) (h2 : asc ls = true) (h3 : ¬ Shut G t ls) : faultD G t r (.tup [.str "lot", tD ls]) = dTight := by
  unfold faultD
  rw [if_neg (fun ⟨es, e, _⟩ => rl_ne (pair_inj e).1.symm), if_pos ⟨ls, rfl, h1, h2⟩, if_neg]
  rintro ⟨l2, e, h⟩
  rw [← tD_inj (pair_inj e).2] at h
  exact h3 h
theorem fault_lot {G : Nt} {t : List Nat} {r : Nat} {ls : List Nat} (h1 : ∀ x ∈ ls, x < G.n) (h2 : asc ls = true) (h3 : Shut G t ls) : faultD G t r (.tup [.str "lot", tD ls]) = if G.head t r ∈ ls ∧ G.tail t r ∉ ls then .non else dRoadF := by
  unfold faultD
  rw [if_neg (fun ⟨es, e, _⟩ => rl_ne (pair_inj e).1.symm), if_pos ⟨ls, rfl, h1, h2⟩, if_pos ⟨ls, rfl, h3⟩]
  by_cases hr : G.head t r ∈ ls ∧ G.tail t r ∉ ls
  · rw [if_pos hr, if_pos (.inr ⟨ls, rfl, h1, h2, h3, hr.1, hr.2⟩)]
  · rw [if_neg hr, if_neg]
    rintro (⟨es', e, _⟩ | ⟨l2, e, _, _, _, hr1, hr2⟩)
    · exact rl_ne (pair_inj e).1.symm
    · rw [← tD_inj (pair_inj e).2] at hr1 hr2
      exact hr ⟨hr1, hr2⟩
theorem fault_good {G : Nt} {t : List Nat} {r : Nat} {v : D} : faultD G t r v = .non ↔ Good G t r v := by
  constructor
  · intro h
    unfold faultD at h
    split at h
    · split at h
      · assumption
      · cases h
    · split at h
      · split at h
        · split at h
          · assumption
          · cases h
        · cases h
      · cases h
  · rintro (⟨es, rfl, h, hr⟩ | ⟨ls, rfl, h1, h2, h3, h4, h5⟩)
    · rw [fault_ring h, if_pos hr]
    · rw [fault_lot h1 h2 h3, if_pos ⟨h4, h5⟩]
theorem fault_val (G : Nt) (t : List Nat) (r : Nat) (v : D) : Val (faultD G t r v) := by
  have a : Val dForm := ⟨by decide +kernel, by decide +kernel, by decide +kernel⟩
  have b : Val dRoadF := ⟨by decide +kernel, by decide +kernel, by decide +kernel⟩
  have c : Val dTight := ⟨by decide +kernel, by decide +kernel, by decide +kernel⟩
  unfold faultD
  split
  · split
    · exact val_non
    · exact b
  · split
    · split
      · split
        · exact val_non
        · exact b
      · exact c
    · exact a
/-! ### the values that are asked -/
def wRing : D := .str "ring"
def wLot : D := .str "lot"
def wOdd : D := .str "Lot"
structure AU (u : D) : Prop where
  val : Val u
  ask : Ask u
  sz : ∀ ds, u = .tup ds → ds.length ≤ 1000
def VQ (v : D) : Prop := (dIsi "tuple" v = some (.bl false)) ∨ (∃ ds, v = .tup ds ∧ ds.length ≠ 2) ∨
  ∃ w u, v = .tup [w, u] ∧ AU u ∧ (w = wRing ∨ w = wLot ∨ w = wOdd ∨ ∃ es : List Nat, w = tD es ∧ Val w)
theorem notpair {G : Nt} {t : List Nat} {r : Nat} {v : D} (h : ∀ s u, v ≠ .tup [.str s, u]) : faultD G t r v = dForm :=
  fault_form (fun ⟨es, e, _⟩ => h _ _ e) (fun ⟨ls, e, _⟩ => h _ _ e)
theorem ev_tight {G : Nt} (hG : G.Ok) {t : List Nat} {ls : List Nat} (nd : ls.Nodup) (hl : ∀ x ∈ ls, x < G.n) : m_is_tight [G.d, tD (G.outs t G.roads.length), tD ls] = some (.bl (decide ((inn G ls G.roads.length).length = G.sumO t ls))) := by
  have ho : m_outs_at [tD (G.outs t G.roads.length), tD ls] = some (.int (G.sumO t ls : Nat)) := by
    refine wD_eq (run_P rfl ?_)
    unfold m_outs_atB
    show wS _ [some (.sh (tD (G.outs t G.roads.length))), some (.sh (tD ls)), none] () _
    rw [w_sRet, w_e1]
    refine map_ev (es := ls) (g := G.cnt t G.roads.length) rfl rfl (fun x => rfl) (fun e he Q => ?_) ?_
    · simp only [wipeE, List.set]
      simp only [↓w_e2, ↓v0, ↓v2]
      have e1 : dIx (tD (G.outs t G.roads.length)) (.int (e : Int)) = some (.int (G.cnt t G.roads.length e : Nat)) := by
        have := o_ixTN (G.outs t G.roads.length) (a := e) (by rw [outs_len]; exact hl e he)
        rw [outs_at _ _ _ (hl e he)] at this
        exact this
      rw [e1, wD_some]
    · have : dSum (.lst (nats (ls.map (G.cnt t G.roads.length)))) = some (.int ((ls.map (G.cnt t G.roads.length)).sum : Nat)) := by
        have e : ints? (nats (ls.map (G.cnt t G.roads.length))) = some ((ls.map (G.cnt t G.roads.length)).map fun (x : Nat) => (x : Int)) := ints_nats _
        show (ints? _).map _ = _
        rw [e, Option.map_some]
        congr 2
        generalize ls.map (G.cnt t G.roads.length) = l
        induction l with
        | nil => rfl
        | cons x r ih => rw [List.map_cons, List.sum_cons, List.sum_cons, ih]; omega
      rw [this, wD_some]
      rfl
  refine wD_eq (run_P rfl ?_)
  unfold m_is_tightB
  show wS _ [some (.sh G.d), some (.sh (tD (G.outs t G.roads.length))), some (.sh (tD ls))] () _
  rw [w_sRet]
  simp only [↓w_e2, ↓w_eCallP, ↓w_aCons, ↓w_aNil, ↓v0, ↓v1, ↓v2]
  rw [ev_within, wD_some, ho, wD_some, o_eqI, wD_some]
  congr 1
  exact decide_eq_decide.mpr (by omega)
theorem lot_dec {G : Nt} {t : List Nat} {ls : List Nat} (nd : ls.Nodup) : ((inn G ls G.roads.length).length = G.sumO t ls) ↔ Shut G t ls := (lot_le nd).2
theorem ev_judge {G : Nt} (hG : G.Ok) {t : List Nat} (ht : Tn G t) {r : Nat} (hr : r < G.roads.length) {v : D} (hv : VQ v) : m_judge_stiff [G.d, tD t, .int r, v] = some (faultD G t r v) := by
  refine wD_eq (run_P rfl ?_)
  unfold m_judge_stiffB
  show wS _ [some (.sh G.d), some (.sh (tD t)), some (.sh (.int r)), some (.sh v), none, none] () _
  rw [w_sSeq, w_sIf, w_tOr, w_tNot, w_tE]
  simp only [↓w_e1, ↓v3]
  rcases hv with e | ⟨ds, rfl, hl⟩ | ⟨w, u, rfl, hu, hw⟩
  · simp only [e, wD_some, isB_bl, Bool.not_false, if_true]
    rw [w_sRet, w_eTup1, w_eC]
    exact (notpair (fun s u h => by rw [h] at e; cases e)).symm
  · rw [show dIsi "tuple" (.tup ds) = some (.bl true) from rfl]
    simp only [wD_some, isB_bl, Bool.not_true, Bool.false_eq_true, if_false]
    rw [w_tOr, w_tE]
    simp only [↓w_e2, ↓w_e1, ↓w_eC, ↓v3]
    rw [show dLen (.tup ds) = some (.int (ds.length : Int)) from rfl, wD_some, o_neI, wD_some, isB_bl, decide_eq_false (by omega)]
    simp only [Bool.not_false, if_true]
    rw [w_sRet, w_eTup1, w_eC]
    exact (notpair (fun s u h => by rw [D.tup.inj h] at hl; exact hl rfl)).symm
  · rw [show dIsi "tuple" (.tup [w, u]) = some (.bl true) from rfl]
    simp only [wD_some, isB_bl, Bool.not_true, Bool.false_eq_true, if_false]
    rw [w_tOr, w_tE]
    simp only [↓w_e2, ↓w_e1, ↓w_eC, ↓v3]
    rw [show dLen (.tup [w, u]) = some (.int 2) from rfl, wD_some, o_neI, wD_some, isB_bl, decide_eq_true rfl]
    simp only [Bool.not_true, Bool.false_eq_true, if_false]
    rw [w_tNot, w_tE]
    simp only [↓w_e2, ↓w_e1, ↓w_eC, ↓v3]
    have ix0 : dIx (.tup [w, u]) (.int 0) = some w := rfl
    have ix1 : dIx (.tup [w, u]) (.int 1) = some u := rfl
    rw [ix0, wD_some]
    rcases hw with rfl | rfl | rfl | ⟨es, rfl, hVw⟩
    · -- ring
      rw [show dIsi "str" wRing = some (.bl true) from rfl, wD_some, isB_bl]
      simp only [Bool.not_true, Bool.false_eq_true, if_false]
      rw [w_sNx]
      show wS _ [some (.sh G.d), some (.sh (tD t)), some (.sh (.int r)), some (.sh (.tup [wRing, u])), none, none] () _
      rw [w_sSeq, w_sIf, w_tE]
      simp only [↓w_e2, ↓w_eC, ↓v3]
      rw [ix0, wD_some, show dEq wRing (.str "ring") = some (.bl true) from o_eqS (by decide +kernel) (by decide +kernel) (by decide +kernel), wD_some, isB_bl, if_pos rfl]
      obtain ⟨b, hb, hbr⟩ := ev_is_turning_ring hG ht hu.ask hu.sz
      rw [w_sSeq, w_sIf, w_tNot, w_tE]
      simp only [↓w_eCallP, ↓w_aCons, ↓w_aNil, ↓w_e2, ↓w_eC, ↓v0, ↓v1, ↓v3]
      rw [ix1, wD_some, hb, wD_some, isB_bl]
      cases b with
      | false =>
        simp only [Bool.not_false, if_true]
        rw [w_sRet, w_eTup1, w_eC]
        have hn : ¬ ringB G t u := fun h => by have := hbr.mpr h; cases this
        exact (fault_form (G := G) (t := t) (r := r) (v := .tup [.str "ring", u]) (fun ⟨es, e, R⟩ => hn ⟨es, (pair_inj e).2, R⟩) (fun ⟨ls, e, _⟩ => rl_ne (pair_inj e).1)).symm
      | true =>
        simp only [Bool.not_true, Bool.false_eq_true, if_false]
        obtain ⟨es, rfl, R⟩ := hbr.mp rfl
        rw [w_sNx]
        show wS _ [some (.sh G.d), some (.sh (tD t)), some (.sh (.int r)), some (.sh (.tup [wRing, tD es])), none, none] () _
        rw [w_sRet, w_eIf, w_tE]
        simp only [↓w_e2, ↓w_eC, ↓v2, ↓v3]
        rw [ix1, wD_some, o_inN es (tD es) (.inr rfl), wD_some, isB_bl, show D.tup [wRing, tD es] = .tup [.str "ring", tD es] from rfl, fault_ring R]
        by_cases h : r ∈ es
        · rw [decide_eq_true h, if_pos rfl, if_pos h]
        · rw [decide_eq_false h, if_neg Bool.false_ne_true, if_neg h, w_eTup1, w_eC]
          rfl
    · -- lot
      rw [show dIsi "str" wLot = some (.bl true) from rfl, wD_some, isB_bl]
      simp only [Bool.not_true, Bool.false_eq_true, if_false]
      rw [w_sNx]
      show wS _ [some (.sh G.d), some (.sh (tD t)), some (.sh (.int r)), some (.sh (.tup [wLot, u])), none, none] () _
      rw [w_sSeq, w_sIf, w_tE]
      simp only [↓w_e2, ↓w_eC, ↓v3]
      rw [ix0, wD_some, show dEq wLot (.str "ring") = some (.bl false) from o_eqS (by decide +kernel) (by decide +kernel) (by decide +kernel), wD_some, isB_bl]
      simp only [Bool.false_eq_true, if_false]
      rw [w_sNx]
      show wS _ [some (.sh G.d), some (.sh (tD t)), some (.sh (.int r)), some (.sh (.tup [wLot, u])), none, none] () _
      obtain ⟨b, hb, hbl⟩ := ev_is_lot (G := G) hu.ask hu.sz
      rw [w_sSeq, w_sIf, w_tOr, w_tE]
      simp only [↓w_e2, ↓w_eC, ↓v3]
      rw [ix0, wD_some, show dNe wLot (.str "lot") = some (.bl false) from o_neS (b := true) (by decide +kernel) (by decide +kernel) (by decide +kernel), wD_some, isB_bl]
      simp only [Bool.false_eq_true, if_false]
      rw [w_tNot, w_tE]
      simp only [↓w_eCallP, ↓w_aCons, ↓w_aNil, ↓w_e2, ↓w_eC, ↓v0, ↓v3]
      rw [ix1, wD_some, hb, wD_some, isB_bl]
      cases b with
      | false =>
        simp only [Bool.not_false, if_true]
        rw [w_sRet, w_eTup1, w_eC]
        have hn : ¬ lotB G.n u := fun h => by have := hbl.mpr h; cases this
        exact (fault_form (G := G) (t := t) (r := r) (v := .tup [.str "lot", u]) (fun ⟨es, e, R⟩ => rl_ne (pair_inj e).1.symm) (fun ⟨ls, e, h1, h2⟩ => hn ⟨ls, (pair_inj e).2, h1, h2⟩)).symm
      | true =>
        simp only [Bool.not_true, Bool.false_eq_true, if_false]
        obtain ⟨ls, rfl, h1, h2⟩ := hbl.mp rfl
        have nd := asc_nodup h2
        rw [w_sNx]
        show wS _ [some (.sh G.d), some (.sh (tD t)), some (.sh (.int r)), some (.sh (.tup [wLot, tD ls])), none, none] () _
        rw [w_sSeq, w_sIf, w_tNot, w_tE]
        simp only [↓w_eCallP, ↓w_aCons, ↓w_aNil, ↓w_e2, ↓w_eC, ↓v0, ↓v1, ↓v3]
        rw [ev_outs_of hG ht, wD_some, ix1, wD_some, ev_tight hG nd h1, wD_some, isB_bl]
        rw [show D.tup [wLot, tD ls] = .tup [.str "lot", tD ls] from rfl]
        by_cases hs : Shut G t ls
        · rw [decide_eq_true ((lot_dec nd).mpr hs)]
          simp only [Bool.not_true, Bool.false_eq_true, if_false]
          rw [w_sNx]
          show wS _ [some (.sh G.d), some (.sh (tD t)), some (.sh (.int r)), some (.sh (.tup [wLot, tD ls])), none, none] () _
          rw [w_sSeq, w_sPar]
          simp only [↓w_qSh, ↓w_qNil, ↓w_eCallP, ↓w_aCons, ↓w_aNil, ↓v0, ↓v1, ↓v2]
          rw [ev_tail_of ht hr, wD_some, ev_head_of ht hr, wD_some]
          simp only [List.length_cons, List.length_nil, if_true, wD_some]
          show wS _ [some (.sh G.d), some (.sh (tD t)), some (.sh (.int r)), some (.sh (.tup [wLot, tD ls])), some (.sh (.int (G.tail t r))), some (.sh (.int (G.head t r)))] () _
          rw [w_sRet, w_eIf, w_tAnd, w_tE]
          simp only [↓w_e2, ↓w_eC, ↓v3, ↓v5]
          rw [ix1, wD_some, o_inN ls (tD ls) (.inr rfl), wD_some, isB_bl, fault_lot h1 h2 hs]
          by_cases hh : G.head t r ∈ ls
          · rw [decide_eq_true hh, if_pos rfl, w_tE]
            simp only [↓w_e2, ↓w_eC, ↓v3, ↓v4]
            have e3 : dNotIn (.int (G.tail t r : Int)) (tD ls) = some (.bl !decide (G.tail t r ∈ ls)) := by
              unfold dNotIn
              rw [o_inN ls (tD ls) (.inr rfl)]
              rfl
            rw [ix1, wD_some, e3, wD_some, isB_bl]
            by_cases hq : G.tail t r ∈ ls
            · rw [decide_eq_true hq]
              simp only [Bool.not_true, Bool.false_eq_true, if_false]
              rw [if_neg (fun z : G.head t r ∈ ls ∧ G.tail t r ∉ ls => z.2 hq), w_eTup1, w_eC]
              rfl
            · rw [decide_eq_false hq]
              simp only [Bool.not_false, if_true]
              rw [if_pos (⟨hh, hq⟩ : G.head t r ∈ ls ∧ G.tail t r ∉ ls)]
          · rw [decide_eq_false hh]
            simp only [Bool.false_eq_true, if_false]
            rw [if_neg (fun z : G.head t r ∈ ls ∧ G.tail t r ∉ ls => hh z.1), w_eTup1, w_eC]
            rfl
        · rw [decide_eq_false (fun z => hs ((lot_dec nd).mp z)), fault_tight h1 h2 hs]
          simp only [Bool.not_false, if_true]
          rw [w_sRet, w_eTup1, w_eC]
          rfl
    · -- another word
      rw [show dIsi "str" wOdd = some (.bl true) from rfl, wD_some, isB_bl]
      simp only [Bool.not_true, Bool.false_eq_true, if_false]
      rw [w_sNx]
      show wS _ [some (.sh G.d), some (.sh (tD t)), some (.sh (.int r)), some (.sh (.tup [wOdd, u])), none, none] () _
      rw [w_sSeq, w_sIf, w_tE]
      simp only [↓w_e2, ↓w_eC, ↓v3]
      rw [ix0, wD_some, show dEq wOdd (.str "ring") = some (.bl false) from o_eqS (by decide +kernel) (by decide +kernel) (by decide +kernel), wD_some, isB_bl]
      simp only [Bool.false_eq_true, if_false]
      rw [w_sNx]
      show wS _ [some (.sh G.d), some (.sh (tD t)), some (.sh (.int r)), some (.sh (.tup [wOdd, u])), none, none] () _
      rw [w_sSeq, w_sIf, w_tOr, w_tE]
      simp only [↓w_e2, ↓w_eC, ↓v3]
      rw [ix0, wD_some, show dNe wOdd (.str "lot") = some (.bl true) from o_neS (b := false) (by decide +kernel) (by decide +kernel) (by decide +kernel), wD_some, isB_bl, if_pos rfl]
      simp only [if_true]
      rw [w_sRet, w_eTup1, w_eC]
      exact (fault_form (G := G) (t := t) (r := r) (v := .tup [.str "Lot", u]) (fun ⟨es, e, R⟩ => (by decide : ¬ ((Str.ofString "Lot") = Str.ofString "ring")) (pair_inj e).1) (fun ⟨ls, e, _⟩ => (by decide : ¬ ((Str.ofString "Lot") = Str.ofString "lot")) (pair_inj e).1)).symm
    · rw [show dIsi "str" (tD es) = some (.bl false) from rfl, wD_some, isB_bl]
      simp only [Bool.not_false, if_true]
      rw [w_sRet, w_eTup1, w_eC]
      exact (notpair (fun s u' h => by have := (List.cons.inj (D.tup.inj h)).1; cases this)).symm
end Fw
/-! ## U8 -/
set_option linter.all false
set_option maxRecDepth 100000
set_option maxHeartbeats 1000000
/-! The first fault: the law. -/
namespace Fw
open PySem PySem.Spec PyProof.Rows L2
theorem o_notinS {a x y : Str} {b : Bool} (ha : PyData.strOk a = true) (hx : PyData.strOk x = true) (hy : PyData.strOk y = true) (h : ((x == a) || (y == a)) = b) : dNotIn (.str a) (.tup [.str x, .str y]) = some (.bl !b) := by
  have k : D.eqOk (.tup [.str x, .str y]) = true := eqOk_smT fun d hd => by
    have e : ∀ z : Str, PyData.strOk z = true → Sm (.str z) := fun z hz => ⟨rfl, rfl, by show PyData.canLay0 (.str z) = true; simp [PyData.canLay0, hz], by show PyData.depth (.str z) ≤ 1; simp [PyData.depth]⟩
    simp only [List.mem_cons, List.not_mem_nil, or_false] at hd
    rcases hd with rfl | rfl
    · exact e _ hx
    · exact e _ hy
  unfold dNotIn
  show ((if (D.str a).eqOk = true ∧ D.eqOk (.tup [.str x, .str y]) = true then some (D.bl ([D.str x, .str y].any fun z => D.eqv z (.str a))) else none).bind dNot) = _
  rw [if_pos ⟨eqOk_str ha, k⟩]
  simp only [List.any_cons, List.any_nil, eqv_str, Bool.or_false, h]
  rfl
theorem tup_head (ts : List Str) : (tupleText ts).cps[0]? = some 40 := by
  unfold tupleText
  show (((Str.ofString "(").cps ++ (Str.join ", " ts).cps) ++ _)[0]? = some 40
  rw [Array.getElem?_append_left, Array.getElem?_append_left]
  · rfl
  · show 0 < 1; decide
  · rw [Array.size_append]
    have : (Str.ofString "(").cps.size = 1 := rfl
    omega
theorem shown_tD (es : List Nat) (x : Str) (hx : x.cps[0]? = some 39) : (x == (tD es).py.shown) = false := by
  rw [beq_eq_false_iff_ne]
  intro e
  have h1 : ((tD es).py.shown).cps[0]? = some 40 := tup_head _
  rw [← e, hx] at h1
  cases h1
theorem v_ring : Val wRing := ⟨by decide +kernel, by decide +kernel, by decide +kernel⟩
theorem v_lot : Val wLot := ⟨by decide +kernel, by decide +kernel, by decide +kernel⟩
theorem v_odd : Val wOdd := ⟨by decide +kernel, by decide +kernel, by decide +kernel⟩
/-- is it one of the two words -/
theorem word_in {w : D} (hw : Val w) {b : Bool} (h : ((wRing.py.shown == w.py.shown) || (wLot.py.shown == w.py.shown)) = b) :
    dNotIn (.str w.py.shown) (.tup [.str wRing.py.shown, .str wLot.py.shown]) = some (.bl !b) := o_notinS hw.text v_ring.text v_lot.text h
theorem ev_fault {G : Nt} (hG : G.Ok) {t : List Nat} (ht : Tn G t) {r : Nat} (hr : r < G.roads.length) {v : D} (hv : VQ v) : m_law_fault [G.d, tD t, .int r, v] = some (faultD G t r v) := by
  refine wD_eq (run_P rfl ?_)
  unfold m_law_faultB
  show wS _ [some (.sh G.d), some (.sh (tD t)), some (.sh (.int r)), some (.sh v), none, none, none, none] () _
  rw [w_sSeq, w_sIf, w_tOr, w_tNot, w_tE]
  simp only [↓w_e1, ↓v3]
  rcases hv with e | ⟨ds, rfl, hl⟩ | ⟨w, u, rfl, hu, hw⟩
  · simp only [e, wD_some, isB_bl, Bool.not_false, if_true]
    rw [w_sRet, w_eTup1, w_eC]
    exact (notpair (fun s u h => by rw [h] at e; cases e)).symm
  · rw [show dIsi "tuple" (.tup ds) = some (.bl true) from rfl]
    simp only [wD_some, isB_bl, Bool.not_true, Bool.false_eq_true, if_false]
    rw [w_tOr, w_tE]
    simp only [↓w_e2, ↓w_e1, ↓w_eC, ↓v3]
    rw [show dLen (.tup ds) = some (.int (ds.length : Int)) from rfl, wD_some, o_neI, wD_some, isB_bl, decide_eq_false (by omega)]
    simp only [Bool.not_false, if_true]
    rw [w_sRet, w_eTup1, w_eC]
    exact (notpair (fun s u h => by rw [D.tup.inj h] at hl; exact hl rfl)).symm
  · rw [show dIsi "tuple" (.tup [w, u]) = some (.bl true) from rfl]
    simp only [wD_some, isB_bl, Bool.not_true, Bool.false_eq_true, if_false]
    rw [w_tOr, w_tE]
    simp only [↓w_e2, ↓w_e1, ↓w_eC, ↓v3]
    rw [show dLen (.tup [w, u]) = some (.int 2) from rfl, wD_some, o_neI, wD_some, isB_bl, decide_eq_true rfl]
    simp only [Bool.not_true, Bool.false_eq_true, if_false]
    rw [w_tE]
    simp only [↓w_e2, ↓w_e1, ↓w_eC, ↓w_eTup2, ↓v3]
    have ix0 : dIx (.tup [w, u]) (.int 0) = some w := rfl
    have ix1 : dIx (.tup [w, u]) (.int 1) = some u := rfl
    have rr : dRepr (.str "ring") = some (.str wRing.py.shown) := v_ring.repr
    have rl : dRepr (.str "lot") = some (.str wLot.py.shown) := v_lot.repr
    rw [ix0, wD_some]
    rcases hw with rfl | rfl | rfl | ⟨es, rfl, hVw⟩
    · -- ring
      rw [v_ring.repr, wD_some, rr, wD_some, rl, wD_some, word_in v_ring (b := true) (by decide +kernel), wD_some, isB_bl]
      simp only [Bool.not_true, Bool.false_eq_true, if_false]
      rw [w_sNx]
      show wS _ [some (.sh G.d), some (.sh (tD t)), some (.sh (.int r)), some (.sh (.tup [wRing, u])), none, none, none, none] () _
      rw [w_sSeq, w_sIf, w_tE]
      simp only [↓w_e2, ↓w_eC, ↓v3]
      rw [ix0, wD_some, show dEq wRing (.str "ring") = some (.bl true) from o_eqS (by decide +kernel) (by decide +kernel) (by decide +kernel), wD_some, isB_bl, if_pos rfl]
      obtain ⟨b, hb, hbr⟩ := ev_law_ring hG ht hu.ask hu.sz
      rw [w_sSeq, w_sIf, w_tNot, w_tE]
      simp only [↓w_eCallP, ↓w_aCons, ↓w_aNil, ↓w_e2, ↓w_eC, ↓v0, ↓v1, ↓v3]
      rw [ix1, wD_some, hb, wD_some, isB_bl]
      cases b with
      | false =>
        simp only [Bool.not_false, if_true]
        rw [w_sRet, w_eTup1, w_eC]
        have hn : ¬ ringB G t u := fun h => by have := hbr.mpr h; cases this
        exact (fault_form (G := G) (t := t) (r := r) (v := .tup [.str "ring", u]) (fun ⟨es, e, R⟩ => hn ⟨es, (pair_inj e).2, R⟩) (fun ⟨ls, e, _⟩ => rl_ne (pair_inj e).1)).symm
      | true =>
        simp only [Bool.not_true, Bool.false_eq_true, if_false]
        obtain ⟨es, rfl, R⟩ := hbr.mp rfl
        rw [w_sNx]
        show wS _ [some (.sh G.d), some (.sh (tD t)), some (.sh (.int r)), some (.sh (.tup [wRing, tD es])), none, none, none, none] () _
        rw [w_sRet, w_eIf, w_tE]
        simp only [↓w_e2, ↓w_eC, ↓v2, ↓v3]
        have e3 : dNotIn (.int (r : Int)) (tD es) = some (.bl !decide (r ∈ es)) := by
          unfold dNotIn
          rw [o_inN es (tD es) (.inr rfl)]
          rfl
        rw [ix1, wD_some, e3, wD_some, isB_bl, show D.tup [wRing, tD es] = .tup [.str "ring", tD es] from rfl, fault_ring R]
        by_cases h : r ∈ es
        · rw [decide_eq_true h]
          simp only [Bool.not_true, Bool.false_eq_true, if_false]
          rw [if_pos h]
        · rw [decide_eq_false h]
          simp only [Bool.not_false, if_true]
          rw [if_neg h, w_eTup1, w_eC]
          rfl
    · -- lot
      rw [v_lot.repr, wD_some, rr, wD_some, rl, wD_some, word_in v_lot (b := true) (by decide +kernel), wD_some, isB_bl]
      simp only [Bool.not_true, Bool.false_eq_true, if_false]
      rw [w_sNx]
      show wS _ [some (.sh G.d), some (.sh (tD t)), some (.sh (.int r)), some (.sh (.tup [wLot, u])), none, none, none, none] () _
      rw [w_sSeq, w_sIf, w_tE]
      simp only [↓w_e2, ↓w_eC, ↓v3]
      rw [ix0, wD_some, show dEq wLot (.str "ring") = some (.bl false) from o_eqS (by decide +kernel) (by decide +kernel) (by decide +kernel), wD_some, isB_bl]
      simp only [Bool.false_eq_true, if_false]
      rw [w_sNx]
      show wS _ [some (.sh G.d), some (.sh (tD t)), some (.sh (.int r)), some (.sh (.tup [wLot, u])), none, none, none, none] () _
      obtain ⟨b, hb, hbl⟩ := ev_law_is_lot (n := G.n) hu.ask hu.sz
      rw [w_sSeq, w_sIf, w_tNot, w_tE]
      simp only [↓w_eCallP, ↓w_aCons, ↓w_aNil, ↓w_e2, ↓w_eC, ↓v0, ↓v3]
      rw [ix1, wD_some, o_n, wD_some, hb, wD_some, isB_bl]
      cases b with
      | false =>
        simp only [Bool.not_false, if_true]
        rw [w_sRet, w_eTup1, w_eC]
        have hn : ¬ lotB G.n u := fun h => by have := hbl.mpr h; cases this
        exact (fault_form (G := G) (t := t) (r := r) (v := .tup [.str "lot", u]) (fun ⟨es, e, R⟩ => rl_ne (pair_inj e).1.symm) (fun ⟨ls, e, h1, h2⟩ => hn ⟨ls, (pair_inj e).2, h1, h2⟩)).symm
      | true =>
        simp only [Bool.not_true, Bool.false_eq_true, if_false]
        obtain ⟨ls, rfl, h1, h2⟩ := hbl.mp rfl
        have nd := asc_nodup h2
        rw [w_sNx]
        show wS _ [some (.sh G.d), some (.sh (tD t)), some (.sh (.int r)), some (.sh (.tup [wLot, tD ls])), none, none, none, none] () _
        rw [w_sSeq, w_sPar]
        simp only [↓w_qSh, ↓w_qNil, ↓w_eCallP, ↓w_aCons, ↓w_aNil, ↓w_e2, ↓w_eC, ↓v0, ↓v1, ↓v2]
        have e4 : dIx (tD t) (.int (r : Int)) = some (.int (t.getD r 0 : Nat)) := o_ixTN t (by rw [ht.len]; exact hr)
        rw [ev_law_outs hG ht, wD_some, o_roads, wD_some, o_road hr, wD_some, e4, wD_some]
        simp only [List.length_cons, List.length_nil, if_true, wD_some]
        show wS _ [some (.sh G.d), some (.sh (tD t)), some (.sh (.int r)), some (.sh (.tup [wLot, tD ls])), some (.sh (tD (G.outs t G.roads.length))), some (.sh (dRoad (G.at r))), some (.sh (.int (t.getD r 0 : Nat))), none] () _
        rw [w_sSeq, w_sIf, w_tE, w_e2]
        simp only [↓w_eCallP, ↓w_aCons, ↓w_aNil, ↓w_e2, ↓w_eC, ↓v0, ↓v3]
        rw [ix1, wD_some, within_eq, ev_within, wD_some, w_e1]
        refine w_lc (I := fun _ => True) (P := fun pre acc => ∃ l1 : List Nat, pre = nats l1 ∧ acc = nats (l1.map (G.cnt t G.roads.length))) ?_
        rw [w_iE]
        simp only [↓w_e2, ↓w_eC, ↓v3]
        rw [ix1, wD_some, show items? (tD ls) = some (nats ls) from rfl, wD_some]
        refine ⟨by trivial, trivial, by trivial, ⟨[], rfl, rfl⟩, fun pre d post acc s e hp _ => ?_, fun acc s hp _ => ?_⟩
        · obtain ⟨l1, rfl, rfl⟩ := hp
          have hd : d ∈ nats ls := by rw [e]; simp
          obtain ⟨c, hc, rfl⟩ := List.mem_map.mp hd
          refine ⟨_, rfl, ?_⟩
          rw [w_tYes, if_pos rfl]
          simp only [wipeE, List.set]
          simp only [↓w_e2, ↓v4, ↓v7]
          have e1 : dIx (tD (G.outs t G.roads.length)) (.int (c : Int)) = some (.int (G.cnt t G.roads.length c : Nat)) := by
            have := o_ixTN (G.outs t G.roads.length) (a := c) (by rw [outs_len]; exact h1 c hc)
            rw [outs_at _ _ _ (h1 c hc)] at this
            exact this
          rw [e1, wD_some]
          exact ⟨⟨l1 ++ [c], by unfold nats; rw [List.map_append]; rfl, by unfold nats; rw [List.map_append, List.map_append]; rfl⟩, trivial, rfl⟩
        · obtain ⟨l1, g1, rfl⟩ := hp
          have e5 := map_nats_inj g1
          subst e5
          have eS : dSum (.lst (nats (ls.map (G.cnt t G.roads.length)))) = some (.int ((ls.map (G.cnt t G.roads.length)).sum : Nat)) := by
            have e : ints? (nats (ls.map (G.cnt t G.roads.length))) = some ((ls.map (G.cnt t G.roads.length)).map fun (x : Nat) => (x : Int)) := ints_nats _
            show (ints? _).map _ = _
            rw [e, Option.map_some]
            congr 2
            generalize ls.map (G.cnt t G.roads.length) = l
            induction l with
            | nil => rfl
            | cons x r ih => rw [List.map_cons, List.sum_cons, List.sum_cons, ih]; omega
          have eD : decide (((inn G ls G.roads.length).length : Int) = ((G.sumO t ls : Nat) : Int)) = decide ((inn G ls G.roads.length).length = G.sumO t ls) := decide_eq_decide.mpr (by omega)
          rw [eS, wD_some, show (ls.map (G.cnt t G.roads.length)).sum = G.sumO t ls from rfl, o_neI, wD_some, isB_bl, eD]
          rw [show D.tup [wLot, tD ls] = .tup [.str "lot", tD ls] from rfl]
          by_cases hs : Shut G t ls
          · rw [decide_eq_true ((lot_dec nd).mpr hs)]
            simp only [Bool.not_true, Bool.false_eq_true, if_false]
            rw [w_sNx]
            show wS _ [some (.sh G.d), some (.sh (tD t)), some (.sh (.int r)), some (.sh (.tup [wLot, tD ls])), some (.sh (tD (G.outs t G.roads.length))), some (.sh (dRoad (G.at r))), some (.sh (.int (t.getD r 0 : Nat))), none] () _
            rw [w_sRet, w_eIf, w_tAnd, w_tE]
            simp only [↓w_e2, ↓w_eC, ↓v3, ↓v5, ↓v6]
            have e6 : dSub (.int 1) (.int (t.getD r 0 : Nat)) = some (.int (1 - (t.getD r 0 : Nat))) := rfl
            rw [e6, wD_some, o_head ht hr, wD_some, ix1, wD_some, o_inN ls (tD ls) (.inr rfl), wD_some, isB_bl, fault_lot h1 h2 hs]
            by_cases hh : G.head t r ∈ ls
            · rw [decide_eq_true hh, if_pos rfl, w_tE]
              simp only [↓w_e2, ↓w_eC, ↓v3, ↓v5, ↓v6]
              have e3 : dNotIn (.int (G.tail t r : Int)) (tD ls) = some (.bl !decide (G.tail t r ∈ ls)) := by
                unfold dNotIn
                rw [o_inN ls (tD ls) (.inr rfl)]
                rfl
              rw [o_tail ht hr, wD_some, ix1, wD_some, e3, wD_some, isB_bl]
              by_cases hq : G.tail t r ∈ ls
              · rw [decide_eq_true hq]
                simp only [Bool.not_true, Bool.false_eq_true, if_false]
                rw [if_neg (fun z : G.head t r ∈ ls ∧ G.tail t r ∉ ls => z.2 hq), w_eTup1, w_eC]
                rfl
              · rw [decide_eq_false hq]
                simp only [Bool.not_false, if_true]
                rw [if_pos (⟨hh, hq⟩ : G.head t r ∈ ls ∧ G.tail t r ∉ ls)]
            · rw [decide_eq_false hh]
              simp only [Bool.false_eq_true, if_false]
              rw [if_neg (fun z : G.head t r ∈ ls ∧ G.tail t r ∉ ls => hh z.1), w_eTup1, w_eC]
              rfl
          · rw [decide_eq_false (fun z => hs ((lot_dec nd).mp z)), fault_tight h1 h2 hs]
            simp only [Bool.not_false, if_true]
            rw [w_sRet, w_eTup1, w_eC]
            rfl
    · -- another word
      rw [v_odd.repr, wD_some, rr, wD_some, rl, wD_some, word_in v_odd (b := false) (by decide +kernel), wD_some, isB_bl]
      simp only [Bool.not_false, if_true]
      rw [w_sRet, w_eTup1, w_eC]
      exact (fault_form (G := G) (t := t) (r := r) (v := .tup [.str "Lot", u]) (fun ⟨es, e, R⟩ => (by decide : ¬ ((Str.ofString "Lot") = Str.ofString "ring")) (pair_inj e).1) (fun ⟨ls, e, _⟩ => (by decide : ¬ ((Str.ofString "Lot") = Str.ofString "lot")) (pair_inj e).1)).symm
    · rw [hVw.repr, wD_some, rr, wD_some, rl, wD_some, word_in hVw (b := false) (by rw [shown_tD es _ (by decide +kernel), shown_tD es _ (by decide +kernel)]; rfl), wD_some, isB_bl]
      simp only [Bool.not_false, if_true]
      rw [w_sRet, w_eTup1, w_eC]
      exact (notpair (fun s u' h => by have := (List.cons.inj (D.tup.inj h)).1; cases this)).symm
end Fw
/-! ## U9 -/
set_option linter.all false
set_option maxRecDepth 100000
set_option maxHeartbeats 1000000
namespace Fw
open PySem PySem.Spec PyProof.Rows L2
noncomputable section
def lb0 : C Src := (sAsg (eCall m_law_frame (aCons (eV 1) (aCons (e2 dIx (eLst (aCons (eC (.int 3)) (aCons (eC (.int 4)) (aCons (eC (.int 5)) (aCons (eC (.int 6)) aNil))))) (eV 2)) (aCons (e2 dIx (eLst (aCons (eC (.int 5)) (aCons (eC (.int 7)) (aCons (eC (.int 9)) (aCons (eC (.int 10)) aNil))))) (eV 2)) aNil)))) (gN 3))
def lb1 : C Src := (sPar [4, 5] (qSh (e1 dRepr (eV 3)) (qSh (eCall m_law_turning (aCons (eV 1) (aCons (eV 3) aNil))) qNil)))
def lb2 : C Src := (sPar [7, 8] (qSh (eCallP m_stiff_paper (aCons (eV 3) (aCons (eV 5) (aCons (eV 6) aNil)))) (qSh (e2 dIx (e2 dIx (eV 3) (eC (.int 1))) (eV 6)) qNil)))
def lb3 : C Src := (sPar [9, 10] (qSh (e2 dIx (eV 8) (e2 dIx (eV 5) (eV 6))) (qSh (e2 dIx (eV 8) (e2 dSub (eC (.int 1)) (e2 dIx (eV 5) (eV 6)))) qNil)))
def lb4 : C Src := (sAsg (eIf (tE (e2 dIn (eV 9) (eCallP m_law_led (aCons (eV 3) (aCons (eV 5) (aCons (eV 10) aNil)))))) (eC (.str "ring")) (eC (.str "lot"))) (gN 11))
def lb5 : C Src := (sIf (Fw.tOr (tE (e2 dNe (e2 dIx (eV 7) (eC (.int 0))) (eV 11))) (tE (e1 dNotN (eCallP m_law_fault (aCons (eV 3) (aCons (eV 5) (aCons (eV 6) (aCons (eV 7) aNil)))))))) (sRet (eC (.bl false))) sNx)
def lb6 : C Src := (sPar [13, 14] (qSh (e1 dRepr (eV 12)) (qSh (eCallP m_law_fault (aCons (eV 3) (aCons (eV 5) (aCons (eV 6) (aCons (eV 12) aNil))))) qNil)))
def lb7 : C Src := (sIf (Fw.tOr (tE (e2 dNe (e1 dRepr (eCallP m_judge_stiff (aCons (eV 3) (aCons (eV 5) (aCons (eV 6) (aCons (eV 12) aNil)))))) (e1 dRepr (eV 14)))) (tE (e2 dNe (e1 dRepr (eV 12)) (eV 13)))) (sRet (eC (.bl false))) sNx)
def lb8 : C Src := (sIf (Fw.tAnd (tE (e1 dIsN (eV 14))) (tE (e2 dNe (e2 dIx (eV 12) (eC (.int 0))) (eV 11)))) (sRet (eC (.bl false))) sNx)
def lb9 : C Src := (sFor (iE (eCall m_law_values (aCons (eV 1) (aCons (eV 3) (aCons (eV 5) (aCons (eV 7) aNil)))))) (gN 12) (sSeq lb6 (sSeq lb7 lb8)) [0, 2, 7, 8, 9, 10, 12, 13, 14])
def lb10 : C Src := (sFor (iE (eCut (eCall m_law_mixed (aCons (eV 1) (aCons (eListR1 (e1 dLen (e2 dIx (eV 3) (eC (.int 1))))) aNil))) pNone (pSome (eC (.int 4))))) (gN 6) (sSeq lb2 (sSeq lb3 (sSeq lb4 (sSeq lb5 lb9)))) [0, 2, 6, 7, 8, 9, 10, 11, 12, 13, 14])
def lb11 : C Src := (sIf (tE (e2 dNe (e1 dRepr (eV 3)) (eV 4))) (sRet (eC (.bl false))) sNx)
def lb12 : C Src := (sFor (iR1 (eC (.int 4))) (gN 2) (sSeq lb0 (sSeq lb1 (sSeq lb10 lb11))) [0, 2, 3, 4, 5, 6, 7, 8, 9, 10, 11, 12, 13, 14])
theorem lb_eq : m_lawB = (sSeq lb12 (sRet (e1 dIsN (eCallP m_judge_stiff (aCons (eTup (aCons (eC (.int 3)) (aCons (eTup (aCons (eTup (aCons (eC (.int 0)) (aCons (eC (.int 1)) aNil))) (aCons (eTup (aCons (eC (.int 1)) (aCons (eC (.int 2)) aNil))) (aCons (eTup (aCons (eC (.int 0)) (aCons (eC (.int 2)) aNil))) aNil)))) aNil))) (aCons (eTup (aCons (eC (.int 0)) (aCons (eC (.int 0)) (aCons (eC (.int 0)) aNil)))) (aCons (eC (.int 0)) (aCons (eTup (aCons (eC (.str "lot")) (aCons (eTup (aCons (eC (.int 1)) (aCons (eC (.int 2)) aNil))) aNil))) aNil)))))))) := by
  unfold m_lawB
  unfold lb12 lb11 lb10 lb9 lb8 lb7 lb6 lb5 lb4 lb3 lb2 lb1 lb0
  rfl
def vb0 : C Src := (sPar [4, 5] (qSh (e2 dIx (eV 1) (eC (.int 0))) (qSh (e2 dIx (eV 3) (eC (.int 1))) qNil)))
def vb1 : C Src := (sPar [6, 7] (qSh (eCall m_law_of (aCons (eV 0) (aCons (eCallP m_law_all_lots (aCons (eV 4) aNil)) aNil))) (qSh (eCall dPick (aCons (eV 0) (aCons (e2 dAdd (e1 dLen (eV 5)) (eC (.int 1))) aNil))) qNil)))
def vb2 : C Src := (sAsg (eCall m_law_of (aCons (eV 0) (aCons (eLst (aCons (eC .non) (aCons (eC (.bl true)) (aCons (e1 dNeg (eC (.int 1))) (aCons (eV 4) (aCons (eC (.str "0")) (aCons (eTup (aCons (eC (.int 0)) aNil)) (aCons (eC (.int 0)) (aCons (e2 dPow (eC (.int 10)) (eC (.int 20))) (aCons (e1 dLen (e2 dIx (eV 1) (eC (.int 1)))) aNil)))))))))) aNil))) (gN 8))
def vb3 : C Src := (sAsg (e1 dTuple (eCallP m_law_led (aCons (eV 1) (aCons (eV 2) (aCons (eCall dPick (aCons (eV 0) (aCons (eV 4) aNil))) aNil))))) (gN 9))
def vb4 : C Src := (sAsg (eLst (aCons (eV 3) (aCons (eTup (aCons (e2 dIx (eV 3) (eC (.int 0))) (aCons (e2 dAdd (e2 dAdd (eCut (eV 5) pNone (pSome (eV 7))) (eTup (aCons (eV 8) aNil))) (eCut (eV 5) (pSome (eV 7)) pNone)) aNil))) (aCons (eTup (aCons (e2 dIx (eV 3) (eC (.int 0))) (aCons (e2 dAdd (e2 dAdd (eCut (eV 5) pNone (pSome (eV 7))) (eTup (aCons (eV 8) aNil))) (eCut (eV 5) (pSome (e2 dAdd (eV 7) (eC (.int 1)))) pNone)) aNil))) (aCons (e1 dList (eV 3)) aNil))))) (gN 10))
def vb5 : C Src := (sAsg (e2 dAdd (eV 10) (eLst (aCons (eTup (aCons (e2 dIx (eV 3) (eC (.int 0))) (aCons (e1 dRev (eV 5)) aNil))) (aCons (eTup (aCons (e2 dIx (eV 3) (eC (.int 0))) (aCons (eCut (eV 5) (pSome (eC (.int 1))) pNone) aNil))) (aCons (eTup (aCons (e2 dIx (eV 3) (eC (.int 0))) (aCons (e1 dList (eV 5)) aNil))) (aCons (eTup (aCons (e2 dIx (eV 3) (eC (.int 0))) (aCons (e2 dAdd (eCut (eV 5) (pSome (eC (.int 1))) pNone) (eCut (eV 5) pNone (pSome (eC (.int 1))))) aNil))) aNil)))))) (gN 10))
def vb6 : C Src := (sAsg (e2 dAdd (eV 10) (eLst (aCons (eTup (aCons (eC (.str "lot")) (aCons (eV 6) aNil))) (aCons (eTup (aCons (eC (.str "lot")) (aCons (eV 9) aNil))) (aCons (eTup (aCons (eC (.str "lot")) (aCons (eV 5) aNil))) (aCons (eTup (aCons (eC (.str "ring")) (aCons (eV 5) aNil))) (aCons (eTup (aCons (eC (.str "lot")) (aCons (eTup aNil) aNil))) (aCons (eTup (aCons (eC (.str "ring")) (aCons (eTup aNil) aNil))) aNil)))))))) (gN 10))
def vb7 : C Src := (sAsg (e2 dAdd (eV 10) (eLst (aCons (eTup (aCons (eV 5) (aCons (e2 dIx (eV 3) (eC (.int 0))) aNil))) (aCons (eTup (aCons (eC (.str "lot")) (aCons (eTupR1 (eV 4)) aNil))) (aCons (eTup (aCons (eC (.str "Lot")) (aCons (eV 5) aNil))) (aCons (e2 dAdd (eV 3) (eTup (aCons (eC (.int 0)) aNil))) (aCons (eCut (eV 3) pNone (pSome (eC (.int 1)))) aNil))))))) (gN 10))
theorem vb_eq : m_law_valuesB = (sSeq vb0 (sSeq vb1 (sSeq vb2 (sSeq vb3 (sSeq vb4 (sSeq vb5 (sSeq vb6 (sSeq vb7 (sRet (e2 dAdd (eV 10) (eLst (aCons (eC .non) (aCons (eTup aNil) (aCons (eC (.int 0)) (aCons (eC (.str "ring")) (aCons (eC (.dct [])) aNil)))))))))))))))) := by
  unfold m_law_valuesB
  unfold vb7 vb6 vb5 vb4 vb3 vb2 vb1 vb0
  rfl
end
end Fw
/-! ## U10 -/
set_option linter.all false
set_option maxRecDepth 100000
set_option maxHeartbeats 1000000
/-! What may be shown; the values that are asked. -/
namespace Fw
open PySem PySem.Spec PyProof.Rows L2
def okS (x : Option Sl) : Prop := x = none ∨ ∃ d, x = some (.sh d)
/-! ### what may be shown -/
theorem vb_tD {l : List Nat} {c : Nat} (hl : l.length ≤ c) (h : ∀ x ∈ l, x ≤ 1000000) : Vb (52 * c + 3) 1 (tD l) := by
  refine vb_tup (c := 50) (m := 0) (fun x hx => ?_) (by rw [List.length_map]; exact hl)
  obtain ⟨k, hk, rfl⟩ := List.mem_map.mp hx
  have := h k hk
  exact vb_int (by omega)
theorem val_tD {l : List Nat} (hl : l.length ≤ 1000) (h : ∀ x ∈ l, x ≤ 1000000) : Val (tD l) := (vb_tD hl h).val (by decide) (by decide)
theorem val_lst2 {x y : D} (hx : Vb 60000 9 x) (hy : Vb 60000 9 y) : Val (.lst [x, y]) :=
  (vb_lst (l := 2) (ds := [x, y]) (fun z hz => by
    simp only [List.mem_cons, List.not_mem_nil, or_false] at hz
    rcases hz with rfl | rfl <;> assumption) (Nat.le_refl _)).val (by decide) (by decide)
theorem vb_bl (b : Bool) : Vb 60000 9 (.bl b) := ⟨rfl, by cases b <;> decide, by cases b <;> decide⟩
theorem vb_dRoad {p : Nat × Nat} (h : p.1 ≤ 1000 ∧ p.2 ≤ 1000) : Vb 200 1 (dRoad p) := by
  refine (vb_tup (c := 50) (m := 0) (l := 2) (ds := [.int p.1, .int p.2]) (fun x hx => ?_) (Nat.le_refl _)).mono (by decide) (by decide)
  simp only [List.mem_cons, List.not_mem_nil, or_false] at hx
  rcases hx with rfl | rfl <;> exact vb_int (by omega)
theorem Nt.Ok.val {G : Nt} (h : G.Ok) : Val G.d := by
  have h1 : Vb 60000 9 (.tup (G.roads.map dRoad)) := (vb_tup (c := 200) (m := 1) (l := 40) (fun x hx => by
    obtain ⟨p, hp, rfl⟩ := List.mem_map.mp hx
    have := h.rd p hp
    have := h.n2
    exact vb_dRoad (by omega)) (by rw [List.length_map]; exact h.m)).mono (by decide) (by decide)
  have h2 : Vb 60000 9 (.int G.n) := (vb_int (by have := h.n2; omega)).mono (by decide) (by decide)
  exact (vb_tup (l := 2) (ds := [.int G.n, .tup (G.roads.map dRoad)]) (fun z hz => by
    simp only [List.mem_cons, List.not_mem_nil, or_false] at hz
    rcases hz with rfl | rfl <;> assumption) (Nat.le_refl _)).val (by decide) (by decide)
theorem Tn.le1 {G : Nt} {t : List Nat} (h : Tn G t) : ∀ x ∈ t, x ≤ 1000000 := fun x hx => by have := h.le x hx; omega
theorem cnt_le (G : Nt) (t : List Nat) (k c : Nat) : G.cnt t k c ≤ k := by
  unfold Nt.cnt
  have := List.length_filter_le (fun r => decide (G.tail t r = c)) (List.range k)
  rw [List.length_range] at this
  exact this
theorem outs_le {G : Nt} (hG : G.Ok) (t : List Nat) : ∀ x ∈ G.outs t G.roads.length, x ≤ 1000000 := fun x hx => by
  obtain ⟨c, _, rfl⟩ := List.mem_map.mp hx
  have := cnt_le G t G.roads.length c
  have := hG.m
  omega
/-! ### items, tuples of them -/
def IT (d : D) : Prop := Vb 200 5 d ∧ Sm d
def TW (l : Nat) (d : D) : Prop := ∃ ds, d = .tup ds ∧ ds.length ≤ l ∧ ∀ x ∈ ds, IT x
theorem it_nat (k : Nat) (h : k ≤ 1000000) : IT (.int k) := ⟨(vb_int (by omega)).mono (by decide) (by decide), rfl, rfl, rfl, by show 0 ≤ 1; decide⟩
theorem it_int {k : Int} (h : -1000000 ≤ k ∧ k ≤ 1000000) : IT (.int k) := ⟨(vb_int (by omega)).mono (by decide) (by decide), rfl, rfl, rfl, by show 0 ≤ 1; decide⟩
theorem tw_nats {l : List Nat} {c : Nat} (hl : l.length ≤ c) (h : ∀ x ∈ l, x ≤ 1000000) : TW c (tD l) := ⟨_, rfl, by rw [List.length_map]; exact hl, fun x hx => by
  obtain ⟨k, hk, rfl⟩ := List.mem_map.mp hx
  exact it_nat k (h k hk)⟩
theorem tw_cut {l : Nat} {d : D} (h : TW l d) (lo hi : Option Int) : ∃ z, dCut lo hi d = some z ∧ TW l z := by
  obtain ⟨ds, rfl, h1, h2⟩ := h
  exact ⟨_, rfl, _, rfl, Nat.le_trans cutD_len h1, fun x hx => h2 x (mem_cutD hx)⟩
theorem tw_add {c c' : Nat} {d e : D} (h : TW c d) (h' : TW c' e) (hc : c + c' ≤ 1000) : ∃ z, dAdd d e = some z ∧ TW (c + c') z := by
  obtain ⟨ds, rfl, h1, h2⟩ := h
  obtain ⟨es, rfl, h3, h4⟩ := h'
  refine ⟨.tup (ds ++ es), ?_, _, rfl, by rw [List.length_append]; omega, fun x hx => ?_⟩
  · show (if ds.length + es.length ≤ LIM then some (D.tup (ds ++ es)) else none) = _
    rw [if_pos (by show _ ≤ 16777216; omega)]
  · rcases List.mem_append.mp hx with hx | hx
    · exact h2 x hx
    · exact h4 x hx
theorem tw_one {d : D} (h : IT d) : TW 1 (.tup [d]) := ⟨_, rfl, Nat.le_refl _, fun x hx => by rw [List.mem_singleton.mp hx]; exact h⟩
/-- a value that may be shown and asked -/
def VA (d : D) : Prop := Val d ∧ Ask d
theorem TW.va {l : Nat} {d : D} (h : TW l d) (hl : l ≤ 1000) : VA d := by
  obtain ⟨ds, rfl, h1, h2⟩ := h
  have hv : Val (.tup ds) := (vb_tup (l := 1000) (fun x hx => (h2 x hx).1) (by omega)).val (by decide) (by decide)
  exact ⟨hv, hv.nob, fun es he x hx => by cases he; exact (h2 x hx).2⟩
theorem TW.lst {l : Nat} {d : D} (h : TW l d) (hl : l ≤ 1000) : ∃ z, dList d = some z ∧ VA z := by
  obtain ⟨ds, rfl, h1, h2⟩ := h
  have hv : Val (.lst ds) := (vb_lst (l := 1000) (fun x hx => (h2 x hx).1) (by omega)).val (by decide) (by decide)
  exact ⟨.lst ds, rfl, hv, hv.nob, fun es he => by cases he⟩
theorem tw_put {c : Nat} {d x : D} (h : TW c d) (hx : IT x) (hc : c + 1 + c ≤ 1000) (lo hi : Option Int) : ∃ l z r w, dCut none lo d = some l ∧ dCut hi none d = some r ∧ dAdd l (.tup [x]) = some z ∧ dAdd z r = some w ∧ TW (c + 1 + c) w := by
  obtain ⟨l, h1, t1⟩ := tw_cut h none lo
  obtain ⟨r, h2, t2⟩ := tw_cut h hi none
  obtain ⟨z, h3, t3⟩ := tw_add t1 (tw_one hx) (by omega)
  obtain ⟨w, h4, t4⟩ := tw_add t3 t2 hc
  exact ⟨l, z, r, w, h1, h2, h3, h4, t4⟩
theorem va_of {d : D} (hv : Val d) (h : ∀ ds, d ≠ .tup ds) : VA d := ⟨hv, hv.nob, fun ds e => absurd e (h ds)⟩
theorem o_repI (i : Int) {n : Nat} (hn : n ≤ 1000) : dMul (.tup [.int i]) (.int (n : Int)) = some (.tup (List.replicate n (.int i))) := by
  show (if -1000 ≤ (n : Int) ∧ (n : Int) ≤ 1000 ∧ 1 ≤ 1000 then some (D.tup (List.replicate (n : Int).toNat [D.int i]).flatten) else none) = _
  rw [if_pos (by omega), Int.toNat_natCast]
  congr 2
  clear hn
  induction n with
  | zero => rfl
  | succ n ih => rw [List.replicate_succ, List.replicate_succ, List.flatten_cons, ih]; rfl
theorem tw_rep {i : Int} {n : Nat} (hi : -1000000 ≤ i ∧ i ≤ 1000000) : TW n (.tup (List.replicate n (.int i))) := ⟨_, rfl, by rw [List.length_replicate]; exact Nat.le_refl _, fun x hx => by
  rw [List.eq_of_mem_replicate hx]
  exact it_int hi⟩
theorem w_eTupR1 {S : Type} {ρ : Env} {s : S} {a : E S} {Q : D → Env → S → Prop} : wE (eTupR1 a) ρ s Q = wE a ρ s fun x ρ s => isI x fun j => wD (if -16777216 ≤ j ∧ j ≤ 16777216 then some (rangeL 0 j.toNat) else none) fun ds => Q (.tup ds) ρ s := by
  unfold wE eTupR1
  cases a ρ s with
  | none => rfl
  | some t =>
    obtain ⟨x, ρ1, s1⟩ := t
    cases x with
    | int j =>
      simp only [isI]
      by_cases hc : -16777216 ≤ j ∧ j ≤ 16777216
      · rw [if_pos hc, if_pos hc]; rfl
      · rw [if_neg hc, if_neg hc]; rfl
    | _ => rfl
/-- a value that is asked, may be shown -/
structure PV (v : D) : Prop where
  val : Val v
  q : VQ v
def isW (w : D) : Prop := w = wRing ∨ w = wLot ∨ w = wOdd
theorem vb_w {w : D} (h : isW w) : Vb 60000 9 w := by
  rcases h with rfl | rfl | rfl
  · exact ⟨by decide +kernel, by decide +kernel, by decide +kernel⟩
  · exact ⟨by decide +kernel, by decide +kernel, by decide +kernel⟩
  · exact ⟨by decide +kernel, by decide +kernel, by decide +kernel⟩
theorem TW.vb {l : Nat} {d : D} (h : TW l d) (hl : l ≤ 200) : Vb 60000 9 d := by
  obtain ⟨ds, rfl, h1, h2⟩ := h
  exact (vb_tup (l := 200) (fun x hx => (h2 x hx).1) (by omega)).mono (by decide) (by decide)
theorem TW.au {l : Nat} {d : D} (h : TW l d) (hl : l ≤ 200) : AU d := by
  have hv := h.va (by omega)
  obtain ⟨ds, rfl, h1, h2⟩ := h
  exact ⟨hv.1, hv.2, fun es e => by cases e; omega⟩
theorem val_pair {x y : D} (hx : Vb 60000 9 x) (hy : Vb 60000 9 y) : Val (.tup [x, y]) :=
  (vb_tup (l := 2) (ds := [x, y]) (fun z hz => by
    simp only [List.mem_cons, List.not_mem_nil, or_false] at hz
    rcases hz with rfl | rfl <;> assumption) (Nat.le_refl _)).val (by decide) (by decide)
theorem pv_pair {w u : D} (hw : isW w) (hu : AU u) (hb : Vb 60000 9 u) : PV (.tup [w, u]) :=
  ⟨val_pair (vb_w hw) hb, .inr (.inr ⟨w, u, rfl, hu, by rcases hw with h | h | h <;> simp [h]⟩)⟩
theorem pv_tw {w d : D} {l : Nat} (hw : isW w) (h : TW l d) (hl : l ≤ 200) : PV (.tup [w, d]) := pv_pair hw (h.au hl) (h.vb hl)
theorem pv_lst {w : D} {ds : List D} (hw : isW w) (h : TW 200 (.tup ds)) : PV (.tup [w, .lst ds]) := by
  obtain ⟨es, e, h1, h2⟩ := h
  cases e
  have hb : Vb 60000 9 (.lst ds) := (vb_lst (l := 200) (fun x hx => (h2 x hx).1) h1).mono (by decide) (by decide)
  have hv : Val (.lst ds) := hb.val (by decide) (by decide)
  exact pv_pair hw ⟨hv, ⟨hv.nob, fun es he => by cases he⟩, fun es he => by cases he⟩ hb
theorem au_w {w : D} (h : isW w) : AU w := by
  have hv : Val w := (vb_w h).val (by decide) (by decide)
  refine ⟨hv, ⟨hv.nob, fun ds e => ?_⟩, fun ds e => ?_⟩
  · rcases h with rfl | rfl | rfl <;> cases e
  · rcases h with rfl | rfl | rfl <;> cases e
theorem pv_app {ds es : List D} (h : ∀ d ∈ ds, PV d) (h' : ∀ d ∈ es, PV d) : ∀ d ∈ ds ++ es, PV d := fun d hd => (List.mem_append.mp hd).elim (h d) (h' d)
theorem values_ev {a : Addr} {G : Nt} {t late : List Nat} {W : D} {s : Src} {Q : D × Src → Prop} (hs : s.addr = a) (hG : G.Ok) (h7 : G.n ≤ 7) (ht : Tn G t) (hW : W = wRing ∨ W = wLot) (hl : late.length ≤ 30) (hle : ∀ x ∈ late, x ≤ 1000)
    (q : ∀ vs s', s'.addr = a → (∀ v ∈ vs, PV v) → Q (.lst vs, s')) : wD (m_law_values [.obj a, G.d, tD t, .tup [W, tD late]] s) Q := by
  have hm := hG.m
  have hn1 := hG.n1
  have iW : isW W := hW.elim .inl fun h => .inr (.inl h)
  have key : wD (m_law_values [.obj a, G.d, tD t, .tup [W, tD late]] s) fun p => Q (p.1, p.2) := by
    refine run_C (Q := fun d s' => Q (d, s')) rfl ?_
    rw [vb_eq]
    show wS _ [some (.sh (.obj a)), some (.sh G.d), some (.sh (tD t)), some (.sh (.tup [W, tD late])), none, none, none, none, none, none, none] s _
    unfold vb0
    rw [w_sSeq, w_sPar]
    have ix0 : dIx (.tup [W, tD late]) (.int 0) = some W := rfl
    have ix1 : dIx (.tup [W, tD late]) (.int 1) = some (tD late) := rfl
    simp only [↓w_qSh, ↓w_qNil, ↓w_e2, ↓w_eC, ↓v1, ↓v3]
    simp only [o_n, ix1, wD_some, List.length_cons, List.length_nil, if_true]
    show wS _ [some (.sh (.obj a)), some (.sh G.d), some (.sh (tD t)), some (.sh (.tup [W, tD late])), some (.sh (.int G.n)), some (.sh (tD late)), none, none, none, none, none] s _
    unfold vb1
    rw [w_sSeq, w_sPar]
    simp only [↓w_qSh, ↓w_qNil, ↓w_e2, ↓w_e1, ↓w_eC, ↓w_eCall, ↓w_eCallP, ↓w_aCons, ↓w_aNil, ↓v0, ↓v4, ↓v5]
    rw [ev_all_lots h7, wD_some]
    have hp2 : 2 ^ G.n ≤ 2 ^ 7 := Nat.pow_le_pow_right (by decide) h7
    refine of_ev hs (fun e => ?_) (by rw [List.length_map, lots_len]; omega) fun lotd s1 hs1 hlot => ?_
    · have e2 := congrArg List.length e
      rw [List.length_map, lots_len] at e2
      have := Nat.pos_of_ne_zero (n := 2 ^ G.n) (by have := Nat.two_pow_pos G.n; omega)
      simp at e2
    obtain ⟨lot, hlm, rfl⟩ := List.mem_map.mp hlot
    obtain ⟨nd, hlt⟩ := lots_ok hlm
    have eL : dLen (tD late) = some (.int (late.length : Int)) := by
      show some (D.int ((nats late).length : Int)) = _
      unfold nats
      rw [List.length_map]
    have e1 : dAdd (.int (late.length : Int)) (.int 1) = some (.int ((late.length + 1 : Nat) : Int)) := rfl
    simp only [eL, e1, wD_some]
    refine pick_n hs1 (by omega) (by omega) fun k s2 hs2 _ => ?_
    simp only [List.length_cons, List.length_nil, if_true, wD_some]
    show wS _ [some (.sh (.obj a)), some (.sh G.d), some (.sh (tD t)), some (.sh (.tup [W, tD late])), some (.sh (.int G.n)), some (.sh (tD late)), some (.sh (tD lot)), some (.sh (.int k)), none, none, none] s2 _
    unfold vb2
    rw [w_sSeq, w_sAsg]
    simp only [↓w_eCall, ↓w_aCons, ↓w_aNil, ↓w_e1, ↓w_e2, ↓w_eC, ↓w_eLst9, ↓w_eTup1, ↓v0, ↓v1, ↓v4]
    have n1 : dNeg (.int 1) = some (.int (-1)) := rfl
    have n2 : dPow (.int 10) (.int 20) = some (.int 100000000000000000000) := rfl
    have n3 : dLen (.tup (G.roads.map dRoad)) = some (.int (G.roads.length : Int)) := by
      show some (D.int ((G.roads.map dRoad).length : Int)) = _
      rw [List.length_map]
    simp only [n1, n2, o_roads, n3, wD_some]
    refine of_ev hs2 (by simp) (by simp) fun odd s3 hs3 ho => ?_
    have io : IT odd := by
      have all : ([D.non, .bl true, .int (-1), .str "0", .tup [.int 0], .int 0, .int 100000000000000000000]).all (fun d => (vok d && decide (sz d ≤ 200) && decide (dpt d ≤ 5)) && (nob d && d.pure && PyData.canLay0 d.py && decide (d.py.depth ≤ 1))) = true := by decide +kernel
      have one : ∀ d ∈ [D.non, .bl true, .int (-1), .str "0", .tup [.int 0], .int 0, .int 100000000000000000000], IT d := fun d hd => by
        have h := List.all_eq_true.mp all d hd
        simp only [Bool.and_eq_true, decide_eq_true_eq] at h
        exact ⟨⟨h.1.1.1, h.1.1.2, h.1.2⟩, h.2.1.1.1, h.2.1.1.2, h.2.1.2, h.2.2⟩
      simp only [List.mem_cons, List.not_mem_nil, or_false] at ho
      rcases ho with rfl | rfl | rfl | rfl | rfl | rfl | rfl | rfl | rfl
      · exact one _ (by simp)
      · exact one _ (by simp)
      · exact one _ (by simp)
      · exact it_nat _ (by omega)
      · exact one _ (by simp)
      · exact one _ (by simp)
      · exact one _ (by simp)
      · exact one _ (by simp)
      · exact it_nat _ (by omega)
    show wS _ [some (.sh (.obj a)), some (.sh G.d), some (.sh (tD t)), some (.sh (.tup [W, tD late])), some (.sh (.int G.n)), some (.sh (tD late)), some (.sh (tD lot)), some (.sh (.int k)), some (.sh odd), none, none] s3 _
    unfold vb3
    rw [w_sSeq, w_sAsg]
    simp only [↓w_eCall, ↓w_eCallP, ↓w_aCons, ↓w_aNil, ↓w_e1, ↓v0, ↓v1, ↓v2, ↓v4]
    refine pick_n hs3 (by omega) (by omega) fun c s4 hs4 hc => ?_
    rw [ev_law_led hG ht hc, wD_some, show dTuple (.lst (nats (led G t c))) = some (tD (led G t c)) from rfl, wD_some]
    show wS _ [some (.sh (.obj a)), some (.sh G.d), some (.sh (tD t)), some (.sh (.tup [W, tD late])), some (.sh (.int G.n)), some (.sh (tD late)), some (.sh (tD lot)), some (.sh (.int k)), some (.sh odd), some (.sh (tD (led G t c))), none] s4 _
    have hT : TW 30 (tD late) := tw_nats hl fun x hx => by have := hle x hx; omega
    have hlot7 : TW 40 (tD lot) := tw_nats (by have := nodup_le nd hlt; omega) fun x hx => by have := hlt x hx; omega
    have hled : TW 40 (tD (led G t c)) := tw_nats (by have := led_len hG (t := t) hc; omega) fun x hx => by have := led_lt' hG hc x hx; omega
    have told : PV (.tup [W, tD late]) := pv_tw iW hT (by decide)
    unfold vb4
    rw [w_sSeq, w_sAsg]
    simp only [↓w_e2, ↓w_e1, ↓w_eC, ↓w_eLst4, ↓w_eTup2, ↓w_eTup1, ↓w_eCut, ↓w_pNone, ↓w_pSome, ↓v3, ↓v5, ↓v7, ↓v8]
    have addK : dAdd (.int (k : Int)) (.int 1) = some (.int ((k : Int) + 1)) := rfl
    obtain ⟨a1, a2, a3, a4, e1, e2, e3, e4, tw1⟩ := tw_put hT io (by decide) (some (k : Int)) (some (k : Int))
    obtain ⟨b1, b2, b3, b4, f1, f2, f3, f4, tw2⟩ := tw_put hT io (by decide) (some (k : Int)) (some ((k : Int) + 1))
    have eab : a1 = b1 := by rw [e1] at f1; exact Option.some.inj f1
    subst eab
    have eab : a2 = b2 := by rw [e3] at f3; exact Option.some.inj f3
    subst eab
    have lt : dList (.tup [W, tD late]) = some (.lst [W, tD late]) := rfl
    simp only [addK, isI_int, wD_some, ix0, e1, e2, e3, e4, f2, f4, lt]
    show wS _ [some (.sh (.obj a)), some (.sh G.d), some (.sh (tD t)), some (.sh (.tup [W, tD late])), some (.sh (.int G.n)), some (.sh (tD late)), some (.sh (tD lot)), some (.sh (.int k)), some (.sh odd), some (.sh (tD (led G t c))), some (.sh (.lst [.tup [W, tD late], .tup [W, a4], .tup [W, b4], .lst [W, tD late]]))] s4 _
    have hv1 : ∀ v ∈ [.tup [W, tD late], .tup [W, a4], .tup [W, b4], .lst [W, tD late]], PV v := by
      simp only [List.mem_cons, List.not_mem_nil, or_false]
      rintro v (rfl | rfl | rfl | rfl)
      · exact told
      · exact pv_tw iW tw1 (by decide)
      · exact pv_tw iW tw2 (by decide)
      · exact ⟨val_lst2 (vb_w iW) (hT.vb (by decide)), .inl rfl⟩
    have hk1 : [D.tup [W, tD late], .tup [W, a4], .tup [W, b4], .lst [W, tD late]].length ≤ 10 := by simp
    generalize [D.tup [W, tD late], .tup [W, a4], .tup [W, b4], .lst [W, tD late]] = vs1 at hv1 hk1 ⊢
    unfold vb5
    rw [w_sSeq, w_sAsg]
    simp only [↓w_e2, ↓w_e1, ↓w_eC, ↓w_eLst4, ↓w_eTup2, ↓w_eTup1, ↓w_eCut, ↓w_pNone, ↓w_pSome, ↓v3, ↓v5, ↓v10]
    have er : dRev (tD late) = some (tD late.reverse) := by
      show some (D.tup (nats late).reverse) = _
      unfold tD nats
      rw [List.map_reverse]
    obtain ⟨c1, g1, u1⟩ := tw_cut hT (some 1) none
    obtain ⟨c2, g2, u2⟩ := tw_cut hT none (some 1)
    obtain ⟨c3, g3, u3⟩ := tw_add u1 u2 (by decide)
    have hTr : TW 30 (tD late.reverse) := tw_nats (by rw [List.length_reverse]; exact hl) fun x hx => by have := hle x (List.mem_reverse.mp hx); omega
    have ll : dList (tD late) = some (.lst (nats late)) := rfl
    simp only [isI_int, wD_some, ix0, er, g1, g2, g3, ll]
    rw [o_addL (by simp only [List.length_cons, List.length_nil]; omega), wD_some]
    have hv2 := pv_app hv1 (es := [.tup [W, tD late.reverse], .tup [W, c1], .tup [W, .lst (nats late)], .tup [W, c3]]) (by
      simp only [List.mem_cons, List.not_mem_nil, or_false]
      rintro v (rfl | rfl | rfl | rfl)
      · exact pv_tw iW hTr (by decide)
      · exact pv_tw iW u1 (by decide)
      · exact pv_lst iW (by obtain ⟨ds, e, h1, h2⟩ := hT; exact ⟨ds, e, by omega, h2⟩)
      · exact pv_tw iW u3 (by decide))
    have hk2 : (vs1 ++ [D.tup [W, tD late.reverse], .tup [W, c1], .tup [W, .lst (nats late)], .tup [W, c3]]).length ≤ 20 := by simp; omega
    show wS _ [some (.sh (.obj a)), some (.sh G.d), some (.sh (tD t)), some (.sh (.tup [W, tD late])), some (.sh (.int G.n)), some (.sh (tD late)), some (.sh (tD lot)), some (.sh (.int k)), some (.sh odd), some (.sh (tD (led G t c))), some (.sh (.lst (vs1 ++ [D.tup [W, tD late.reverse], .tup [W, c1], .tup [W, .lst (nats late)], .tup [W, c3]])))] s4 _
    generalize (vs1 ++ [D.tup [W, tD late.reverse], .tup [W, c1], .tup [W, .lst (nats late)], .tup [W, c3]]) = vs2 at hv2 hk2 ⊢
    unfold vb6
    rw [w_sSeq, w_sAsg]
    simp only [↓w_e2, ↓w_e1, ↓w_eC, ↓w_eLst6, ↓w_eTup2, ↓w_eTup0, ↓v5, ↓v6, ↓v9, ↓v10]
    rw [o_addL (by simp only [List.length_cons, List.length_nil]; omega), wD_some]
    have nil : TW 0 (.tup []) := ⟨[], rfl, Nat.le_refl _, fun x hx => by simp at hx⟩
    have hv3 := pv_app hv2 (es := [.tup [.str "lot", tD lot], .tup [.str "lot", tD (led G t c)], .tup [.str "lot", tD late], .tup [.str "ring", tD late], .tup [.str "lot", .tup []], .tup [.str "ring", .tup []]]) (by
      simp only [List.mem_cons, List.not_mem_nil, or_false]
      rintro v (rfl | rfl | rfl | rfl | rfl | rfl)
      · exact pv_tw (.inr (.inl rfl)) hlot7 (by decide)
      · exact pv_tw (.inr (.inl rfl)) hled (by decide)
      · exact pv_tw (.inr (.inl rfl)) hT (by decide)
      · exact pv_tw (.inl rfl) hT (by decide)
      · exact pv_tw (.inr (.inl rfl)) nil (by decide)
      · exact pv_tw (.inl rfl) nil (by decide))
    have hk3 : (vs2 ++ [D.tup [.str "lot", tD lot], .tup [.str "lot", tD (led G t c)], .tup [.str "lot", tD late], .tup [.str "ring", tD late], .tup [.str "lot", .tup []], .tup [.str "ring", .tup []]]).length ≤ 30 := by simp; omega
    show wS _ [some (.sh (.obj a)), some (.sh G.d), some (.sh (tD t)), some (.sh (.tup [W, tD late])), some (.sh (.int G.n)), some (.sh (tD late)), some (.sh (tD lot)), some (.sh (.int k)), some (.sh odd), some (.sh (tD (led G t c))), some (.sh (.lst (vs2 ++ [D.tup [.str "lot", tD lot], .tup [.str "lot", tD (led G t c)], .tup [.str "lot", tD late], .tup [.str "ring", tD late], .tup [.str "lot", .tup []], .tup [.str "ring", .tup []]])))] s4 _
    generalize (vs2 ++ [D.tup [.str "lot", tD lot], .tup [.str "lot", tD (led G t c)], .tup [.str "lot", tD late], .tup [.str "ring", tD late], .tup [.str "lot", .tup []], .tup [.str "ring", .tup []]]) = vs3 at hv3 hk3 ⊢
    unfold vb7
    rw [w_sSeq, w_sAsg]
    simp only [↓w_e2, ↓w_e1, ↓w_eC, ↓w_eLst5, ↓w_eTup2, ↓w_eTup1, ↓w_eCut, ↓w_pNone, ↓w_pSome, ↓w_eTupR1, ↓v3, ↓v4, ↓v5, ↓v10]
    have t0 : dAdd (.tup [W, tD late]) (.tup [.int 0]) = some (.tup [W, tD late, .int 0]) := rfl
    have t1 : dCut none (some 1) (.tup [W, tD late]) = some (.tup [W]) := rfl
    simp only [isI_int]
    rw [if_pos (by omega)]
    simp only [ix0, t0, t1, wD_some, Int.toNat_natCast, rangeL_nats]
    rw [o_addL (by simp only [List.length_cons, List.length_nil]; omega), wD_some]
    have hv4 := pv_app hv3 (es := [.tup [tD late, W], .tup [.str "lot", tD (List.range G.n)], .tup [.str "Lot", tD late], .tup [W, tD late, .int 0], .tup [W]]) (by
      simp only [List.mem_cons, List.not_mem_nil, or_false]
      rintro v (rfl | rfl | rfl | rfl | rfl)
      · exact ⟨val_pair (hT.vb (by decide)) (vb_w iW), .inr (.inr ⟨_, _, rfl, au_w iW, .inr (.inr (.inr ⟨late, rfl, (hT.va (by decide)).1⟩))⟩)⟩
      · exact pv_tw (.inr (.inl rfl)) (tw_nats (c := 40) (by rw [List.length_range]; omega) fun x hx => by have := List.mem_range.mp hx; omega) (by decide)
      · exact pv_tw (.inr (.inr rfl)) hT (by decide)
      · refine ⟨(vb_tup (l := 3) (c := 60000) (m := 9) (fun z hz => ?_) (Nat.le_refl _)).val (by decide) (by decide), .inr (.inl ⟨_, rfl, by simp⟩)⟩
        simp only [List.mem_cons, List.not_mem_nil, or_false] at hz
        rcases hz with rfl | rfl | rfl
        · exact vb_w iW
        · exact hT.vb (by decide)
        · exact (vb_int (by decide)).mono (by decide) (by decide)
      · refine ⟨(vb_tup (l := 1) (c := 60000) (m := 9) (fun z hz => ?_) (Nat.le_refl _)).val (by decide) (by decide), .inr (.inl ⟨_, rfl, by simp⟩)⟩
        rw [List.mem_singleton.mp hz]
        exact vb_w iW)
    have hk4 : (vs3 ++ [D.tup [tD late, W], .tup [.str "lot", tD (List.range G.n)], .tup [.str "Lot", tD late], .tup [W, tD late, .int 0], .tup [W]]).length ≤ 40 := by simp; omega
    show wS _ [some (.sh (.obj a)), some (.sh G.d), some (.sh (tD t)), some (.sh (.tup [W, tD late])), some (.sh (.int G.n)), some (.sh (tD late)), some (.sh (tD lot)), some (.sh (.int k)), some (.sh odd), some (.sh (tD (led G t c))), some (.sh (.lst (vs3 ++ [D.tup [tD late, W], .tup [.str "lot", tD (List.range G.n)], .tup [.str "Lot", tD late], .tup [W, tD late, .int 0], .tup [W]])))] s4 _
    generalize (vs3 ++ [D.tup [tD late, W], .tup [.str "lot", tD (List.range G.n)], .tup [.str "Lot", tD late], .tup [W, tD late, .int 0], .tup [W]]) = vs4 at hv4 hk4 ⊢
    rw [w_sRet]
    simp only [↓w_e2, ↓w_eC, ↓w_eLst5, ↓w_eTup0, ↓v10]
    rw [o_addL (by simp only [List.length_cons, List.length_nil]; omega), wD_some]
    refine q _ _ hs4 (pv_app hv4 ?_)
    simp only [List.mem_cons, List.not_mem_nil, or_false]
    rintro v (rfl | rfl | rfl | rfl | rfl)
    · exact ⟨val_non, .inl rfl⟩
    · exact ⟨(nil.va (by decide)).1, .inr (.inl ⟨_, rfl, by simp⟩)⟩
    · exact ⟨val_int (by decide), .inl rfl⟩
    · exact ⟨(vb_w (.inl rfl)).val (by decide) (by decide), .inl rfl⟩
    · exact ⟨⟨by decide +kernel, by decide +kernel, by decide +kernel⟩, .inl rfl⟩
  exact key
end Fw
/-! ## LawTop -/
set_option Elab.async false
set_option linter.all false
set_option maxRecDepth 100000
set_option maxHeartbeats 4000000
namespace Fw
open PySem PySem.Spec PyProof.Rows L2
section
variable {P : Program} {w : World} {K : PySem.W.Frag} {mg : Str → Option Value} {base : Heap}
/-- the law's promise: True, whatever the script -/
def spLaw (K : PySem.W.Frag) : Sp := fun vs H Q _ => ∃ (a : Addr) (ns : List Int), vs = [.ref a] ∧ SqL K H a (ns.map V.int) ∧ ns.length ≤ 63 ∧ ∀ H', Q (.bl true) H'
def lawEnv (n : Nat) (a : Addr) : Env := none :: some (Sl.sh (.obj a)) :: List.replicate n none
theorem fn_law {mb : C Src} {qual : Str} {st : Stmt} {f : Addr} {fd : FuncData} {N : List Str} {k n : Nat} (F : Fun K "law" qual st f fd) (S : FnScope N ["script"] (defScope st)) (hN : N.length = n + 2)
    (hbody : ∀ (cdv : Value) (A : Around) (outer : List PySem.Env) (s : Shared) (H : Hp) (E : XK), RoomG k (A.deeper (envOfC qual (defScope st) s.heap.objs.size f cdv)) →
      ∃ t, PSs (cxOf CX0 P w K mg base N qual (defScope st) f cdv A outer s H E).nox (defBody st) (tSeq (tAsg (tCall (spSource K) [] E0 (tCons (tVar 0) tNil)) (gName 1)) t) ∧ ∀ a c, SemS K (srcW a c) t mb)
    (hm : ∀ (a : Addr) (ns : List Int), ns.length ≤ 63 → ∃ ρ' s', mb (lawEnv n a) (src0 a ns) = some (.rt (.bl true), ρ', s')) :
    FnG P w K mg base CX0 (k + 1) f fd ["script"] (spLaw K) :=
  fun_okG F S (fun vs H Q E h => by obtain ⟨a, ns, rfl, _⟩ := h; rfl) fun cdv A outer s H vs Q E hr h => by
    obtain ⟨a, ns, rfl, hS, hl, q⟩ := h
    obtain ⟨t, hp, hs⟩ := hbody cdv A outer s H E hr
    refine ⟨_, hp, ?_⟩
    have h0 : (start N [V.ref a])[0]? = some (some (V.ref a)) := rfl
    refine ⟨_, h0, a, ns, rfl, hS, hl, fun H' p c same hp0 hc0 hpc e1 e2 => ?_⟩
    obtain ⟨ρ', s', hmb⟩ := hm p ns hl
    have hlen : (start N [V.ref a]).length = n + 2 := by
      unfold L2.start
      rw [List.length_append, List.length_map, List.length_replicate]
      show 1 + (N.length - 1) = n + 2
      omega
    refine hs p c (fun _ => none) (fun _ => none) _ H' (fun _ => none) _ _ ⟨(fun _ _ e => by cases e), (fun _ _ e => by cases e), (fun _ _ e => by cases e), (fun _ h => absurd rfl h), (fun _ _ => rfl), (fun _ _ => rfl),
      ⟨hpc, rfl, ?_, mixes_range ns, e1, e2⟩, ?_, fun i d e => ?_, fun i d e => ?_, fun i j d e a h => ?_⟩ _ hmb _ ?_
    · show ((ns.map absI).reverse).length ≤ 1000
      rw [List.length_reverse, List.length_map]
      omega
    · rw [List.length_set, hlen]
      simp [lawEnv]
    · match i with
      | 0 => simp [lawEnv] at e
      | 1 =>
        simp [lawEnv] at e
        subst e
        exact ⟨_, set_get_eq (by rw [hlen]; omega), .obj p⟩
      | i + 2 =>
        simp [lawEnv, List.getElem?_replicate] at e
    · match i with
      | 0 => simp [lawEnv] at e
      | 1 => simp [lawEnv] at e
      | i + 2 => simp [lawEnv, List.getElem?_replicate] at e
    · match i with
      | 0 => simp [lawEnv] at h
      | 1 => simp [lawEnv] at h
      | i + 2 => simp [lawEnv, List.getElem?_replicate] at h
    · intro v H2 F2 _ _ dv
      cases dv
      exact q H2
end
end Fw
/-! ## U11 -/
set_option linter.all false
set_option maxRecDepth 100000
set_option maxHeartbeats 1000000
/-! The law's body. -/
namespace Fw
open PySem PySem.Spec PyProof.Rows L2
def E15 (a : Addr) (lap f kept t r told pair tl hd w v sh fl : Option Sl) : Env := [none, some (.sh (.obj a)), lap, f, kept, t, r, told, pair, tl, hd, w, v, sh, fl]
theorem isN_no {d : D} (h : d ≠ .non) : dIsN d = some (.bl false) := by cases d <;> first | rfl | exact absurd rfl h
theorem ring_eq : dNe wRing wRing = some (.bl false) := o_neS (b := true) (by decide +kernel) (by decide +kernel) (by decide +kernel)
theorem lot_eq : dNe wLot wLot = some (.bl false) := o_neS (b := true) (by decide +kernel) (by decide +kernel) (by decide +kernel)
/-- the told paper and its word -/
theorem told_ev {G : Nt} (hG : G.Ok) {t : List Nat} (ht : Tn G t) {r : Nat} (hr : r < G.roads.length) : ∃ (W : D) (late : List Nat), m_stiff_paper [G.d, tD t, .int r] = some (.tup [W, tD late]) ∧ (W = wRing ∨ W = wLot) ∧ late.length ≤ 30 ∧ (∀ x ∈ late, x ≤ 1000) ∧
    faultD G t r (.tup [W, tD late]) = .non ∧ (W = if decide (G.tail t r ∈ led G t (G.head t r)) = true then wRing else wLot) ∧ dNe W W = some (.bl false) ∧
    ∀ v, faultD G t r v = .non → ∃ u, v = .tup [W, u] := by
  have hc := hG.head_lt (t := t) hr
  have good : ∀ v, Good G t r v → (Rch G t (G.head t r) (G.tail t r) ∧ ∃ u, v = .tup [wRing, u]) ∨ (¬ Rch G t (G.head t r) (G.tail t r) ∧ ∃ u, v = .tup [wLot, u]) := fun v h => by
    rcases h with ⟨es, rfl, h1, h2⟩ | ⟨ls, rfl, h1, h2, h3, h4, h5⟩
    · exact .inl ⟨ring_rch hG h1 h2, _, rfl⟩
    · exact .inr ⟨fun h => h5 (shut_all h3 h4 h), _, rfl⟩
  rcases ev_stiff hG ht hr with ⟨h1, fs, e, g, l1, l2⟩ | ⟨h1, ls, e, g, l1, l2⟩
  · refine ⟨wRing, fs, e, .inl rfl, l1, l2, fault_good.mpr g, ?_, ring_eq, fun v h => ?_⟩
    · rw [if_pos (decide_eq_true ((mem_led hG hc).mpr h1))]
    · rcases good v (fault_good.mp h) with ⟨_, h2⟩ | ⟨h2, _⟩
      · exact h2
      · exact absurd h1 h2
  · refine ⟨wLot, ls, e, .inr rfl, l1, l2, fault_good.mpr g, ?_, lot_eq, fun v h => ?_⟩
    · rw [if_neg (fun h => h1 ((mem_led hG hc).mp (of_decide_eq_true h)))]
    · rcases good v (fault_good.mp h) with ⟨h2, _⟩ | ⟨_, h2⟩
      · exact absurd h2 h1
      · exact h2
theorem body_ev {a : Addr} {G : Nt} (hG : G.Ok) {t : List Nat} (ht : Tn G t) {r : Nat} (hr : r < G.roads.length) {kept : Option Sl} {W : D} (hWW : dNe W W = some (.bl false)) (hW : ∀ v, faultD G t r v = .non → ∃ u, v = .tup [W, u]) {v : D} (hv : PV v) {s : Src} {Q : Ctl → Env → Src → Prop}
    (q : ∀ x y, Q .nx (E15 a none (some (.sh G.d)) kept (some (.sh (tD t))) (some (.sh (.int r))) none none none none (some (.sh W)) (some (.sh v)) x y) s) :
    wS (sSeq lb6 (sSeq lb7 lb8)) (E15 a none (some (.sh G.d)) kept (some (.sh (tD t))) (some (.sh (.int r))) none none none none (some (.sh W)) (some (.sh v)) none none) s Q := by
  obtain ⟨hV, hQ⟩ := hv
  unfold lb6
  rw [w_sSeq, w_sPar]
  simp only [E15]
  simp only [↓w_qSh, ↓w_qNil, ↓w_e1, ↓w_eCallP, ↓w_aCons, ↓w_aNil, ↓v3, ↓v5, ↓v6, ↓v12]
  simp only [hV.repr, ev_fault hG ht hr hQ, wD_some, List.length_cons, List.length_nil, if_true]
  show wS _ (E15 a none (some (.sh G.d)) kept (some (.sh (tD t))) (some (.sh (.int r))) none none none none (some (.sh W)) (some (.sh v)) (some (.sh (.str v.py.shown))) (some (.sh (faultD G t r v)))) s _
  have hF := fault_val G t r v
  have q' := q (some (.sh (.str v.py.shown))) (some (.sh (faultD G t r v)))
  have hW := hW v
  have hJ := ev_judge hG ht hr hQ
  unfold lb7
  rw [w_sSeq, w_sIf, w_tOr, w_tE]
  simp only [E15] at q' ⊢
  simp only [↓w_e2, ↓w_e1, ↓w_eCallP, ↓w_aCons, ↓w_aNil, ↓v3, ↓v5, ↓v6, ↓v12, ↓v14]
  generalize faultD G t r v = F at *
  simp only [hJ, hF.repr, wD_some, o_neSS hF.text, isB_bl, Bool.false_eq_true, if_false]
  rw [w_tE]
  simp only [↓w_e2, ↓w_e1, ↓v12, ↓v13]
  simp only [hV.repr, wD_some, o_neSS hV.text, isB_bl, Bool.false_eq_true, if_false]
  rw [w_sNx]
  unfold lb8
  rw [w_sIf, w_tAnd, w_tE]
  simp only [↓w_e1, ↓v14]
  by_cases h : F = .non
  · obtain ⟨u, rfl⟩ := hW h
    rw [h]
    rw [show dIsN .non = some (.bl true) from rfl, wD_some, isB_bl, if_pos rfl, w_tE]
    simp only [↓w_e2, ↓w_eC, ↓v11, ↓v12]
    rw [show dIx (.tup [W, u]) (.int 0) = some W from rfl, wD_some, hWW, wD_some, isB_bl]
    simp only [Bool.false_eq_true, if_false]
    rw [w_sNx]
    rw [h] at q'
    exact q'
  · rw [isN_no h, wD_some, isB_bl]
    simp only [Bool.false_eq_true, if_false]
    rw [w_sNx]
    exact q'
theorem road_ev {a : Addr} {G : Nt} (hG : G.Ok) (h7 : G.n ≤ 7) {t : List Nat} (ht : Tn G t) {r : Nat} (hr : r < G.roads.length) {kept : Option Sl} {s : Src} (h0 : s.addr = a) {Q : Ctl → Env → Src → Prop}
    (q : ∀ s w, s.addr = a → Q .nx (E15 a none (some (.sh G.d)) kept (some (.sh (tD t))) (some (.sh (.int r))) none none none none w none none none) s) :
    wS (sSeq lb2 (sSeq lb3 (sSeq lb4 (sSeq lb5 lb9)))) (E15 a none (some (.sh G.d)) kept (some (.sh (tD t))) (some (.sh (.int r))) none none none none none none none none) s Q := by
  obtain ⟨W, late, e1, hW, hl, hle, hF, eW, hWW, hAll⟩ := told_ev hG ht hr
  have hc := hG.head_lt (t := t) hr
  have e4 : dIx (tD t) (.int (r : Int)) = some (.int (t.getD r 0 : Nat)) := o_ixTN t (by rw [ht.len]; exact hr)
  unfold lb2
  rw [w_sSeq, w_sPar]
  simp only [E15]
  simp only [↓w_qSh, ↓w_qNil, ↓w_e2, ↓w_eC, ↓w_eCallP, ↓w_aCons, ↓w_aNil, ↓v3, ↓v5, ↓v6]
  simp only [e1, o_roads, o_road hr, wD_some, List.length_cons, List.length_nil, if_true]
  show wS _ (E15 a none (some (.sh G.d)) kept (some (.sh (tD t))) (some (.sh (.int r))) (some (.sh (.tup [W, tD late]))) (some (.sh (dRoad (G.at r)))) none none none none none none) s _
  unfold lb3
  rw [w_sSeq, w_sPar]
  simp only [E15]
  simp only [↓w_qSh, ↓w_qNil, ↓w_e2, ↓w_eC, ↓v5, ↓v6, ↓v8]
  have e6 : dSub (.int 1) (.int (t.getD r 0 : Nat)) = some (.int (1 - (t.getD r 0 : Nat))) := rfl
  simp only [e4, e6, o_tail ht hr, o_head ht hr, wD_some, List.length_cons, List.length_nil, if_true]
  show wS _ (E15 a none (some (.sh G.d)) kept (some (.sh (tD t))) (some (.sh (.int r))) (some (.sh (.tup [W, tD late]))) (some (.sh (dRoad (G.at r)))) (some (.sh (.int (G.tail t r)))) (some (.sh (.int (G.head t r)))) none none none none) s _
  unfold lb4
  rw [w_sSeq, w_sAsg, w_eIf, w_tE]
  simp only [E15]
  simp only [↓w_e2, ↓w_eC, ↓w_eCallP, ↓w_aCons, ↓w_aNil, ↓v3, ↓v5, ↓v9, ↓v10]
  rw [ev_law_led hG ht hc, wD_some, o_inN _ _ (.inl rfl), wD_some, isB_bl]
  have ite2 : ∀ (b : Bool) (X : D → Prop), X (if b = true then wRing else wLot) → (if b = true then X wRing else X wLot) := fun b X h => by cases b <;> exact h
  refine ite2 _ (fun w => wS (sSeq lb5 lb9) (E15 a none (some (.sh G.d)) kept (some (.sh (tD t))) (some (.sh (.int r))) (some (.sh (.tup [W, tD late]))) (some (.sh (dRoad (G.at r)))) (some (.sh (.int (G.tail t r)))) (some (.sh (.int (G.head t r)))) (some (.sh w)) none none none) s Q) ?_
  rw [← eW]
  have hfl := ev_fault hG ht hr (pv_tw (hW.elim .inl fun h => .inr (.inl h)) (tw_nats (c := 30) hl fun x hx => by have := hle x hx; omega) (by decide) : PV (.tup [W, tD late])).q
  unfold lb5
  rw [w_sSeq, w_sIf, w_tOr, w_tE]
  simp only [E15]
  simp only [↓w_e2, ↓w_eC, ↓v7, ↓v11]
  rw [show dIx (.tup [W, tD late]) (.int 0) = some W from rfl, wD_some, hWW, wD_some, isB_bl]
  simp only [Bool.false_eq_true, if_false]
  rw [w_tE]
  simp only [↓w_e1, ↓w_eCallP, ↓w_aCons, ↓w_aNil, ↓v3, ↓v5, ↓v6, ↓v7]
  rw [hfl, hF, wD_some, show dNotN .non = some (.bl false) from rfl, wD_some, isB_bl]
  simp only [Bool.false_eq_true, if_false]
  rw [w_sNx]
  unfold lb9
  refine w_sFor ?_
  rw [w_iE]
  simp only [↓w_eCall, ↓w_aCons, ↓w_aNil, ↓v1, ↓v3, ↓v5, ↓v7]
  refine values_ev h0 hG h7 ht hW hl hle fun vs s1 hs1 hvs => ?_
  rw [show items? (.lst vs) = some vs from rfl, wD_some]
  refine ⟨fun _ ρ s => s.addr = a ∧ ρ = E15 a none (some (.sh G.d)) kept (some (.sh (tD t))) (some (.sh (.int r))) none none none none (some (.sh W)) none none none, ⟨hs1, by simp only [wipeE, List.set, E15]⟩, ?_, fun ρ s h => by rw [h.2]; exact q s _ h.1⟩
  rintro k d ρ s hd ⟨hs, rfl⟩
  refine ⟨_, rfl, ?_⟩
  show wS _ (E15 a none (some (.sh G.d)) kept (some (.sh (tD t))) (some (.sh (.int r))) none none none none (some (.sh W)) (some (.sh d)) none none) s _
  refine body_ev hG ht hr hWW hAll (hvs d (List.mem_of_getElem? hd)) fun x y => ?_
  exact ⟨hs, by simp only [wipeE, List.set, E15]⟩
theorem lap_ev {a : Addr} {k : Nat} (hk : k < 4) {s : Src} (h0 : s.addr = a) {Q : Ctl → Env → Src → Prop}
    (q : ∀ s f kept t, s.addr = a → Q .nx (E15 a none f kept t none none none none none none none none none) s) :
    wS (sSeq lb0 (sSeq lb1 (sSeq lb10 lb11))) (E15 a (some (.sh (.int k))) none none none none none none none none none none none none) s Q := by
  unfold lb0
  rw [w_sSeq, w_sAsg]
  obtain ⟨m, r, hm, hr, e1, e2⟩ : ∃ m r : Nat, (1 ≤ m ∧ m ≤ 7) ∧ (1 ≤ r ∧ r ≤ 30) ∧ dIx (.lst [.int 3, .int 4, .int 5, .int 6]) (.int (k : Int)) = some (.int (m : Int)) ∧ dIx (.lst [.int 5, .int 7, .int 9, .int 10]) (.int (k : Int)) = some (.int (r : Int)) := by
    match k, hk with
    | 0, _ => exact ⟨3, 5, by decide, by decide, rfl, rfl⟩
    | 1, _ => exact ⟨4, 7, by decide, by decide, rfl, rfl⟩
    | 2, _ => exact ⟨5, 9, by decide, by decide, rfl, rfl⟩
    | 3, _ => exact ⟨6, 10, by decide, by decide, rfl, rfl⟩
  simp only [E15]
  simp only [↓w_eCall, ↓w_aCons, ↓w_aNil, ↓w_e2, ↓w_eC, ↓w_eLst4, ↓v1, ↓v2]
  simp only [e1, e2, wD_some]
  refine frame_ev h0 hm hr fun G s1 hs1 hG h7 => ?_
  show wS _ (E15 a (some (.sh (.int k))) (some (.sh G.d)) none none none none none none none none none none none) s1 _
  have hm40 := hG.m
  have hVG : Val G.d := by
    have h1 : Vb 60000 9 (.tup (G.roads.map dRoad)) := (vb_tup (c := 200) (m := 1) (l := 40) (fun x hx => by
      obtain ⟨p, hp, rfl⟩ := List.mem_map.mp hx
      have := hG.rd p hp
      have := hG.n2
      exact vb_dRoad (by omega)) (by rw [List.length_map]; exact hG.m)).mono (by decide) (by decide)
    have h2 : Vb 60000 9 (.int G.n) := (vb_int (by have := hG.n2; omega)).mono (by decide) (by decide)
    exact val_pair h2 h1
  unfold lb1
  rw [w_sSeq, w_sPar]
  simp only [E15]
  simp only [↓w_qSh, ↓w_qNil, ↓w_e1, ↓w_eCall, ↓w_aCons, ↓w_aNil, ↓v1, ↓v3]
  simp only [hVG.repr, wD_some]
  refine turning_ev hs1 fun t s2 hs2 ht => ?_
  simp only [List.length_cons, List.length_nil, if_true, wD_some]
  show wS _ (E15 a (some (.sh (.int k))) (some (.sh G.d)) (some (.sh (.str G.d.py.shown))) (some (.sh (tD t))) none none none none none none none none none) s2 _
  rw [w_sSeq]
  unfold lb10
  refine w_sFor ?_
  rw [w_iE]
  simp only [E15]
  simp only [↓w_eCut, ↓w_pNone, ↓w_pSome, ↓w_eCall, ↓w_aCons, ↓w_aNil, ↓w_eListR1, ↓w_e1, ↓w_e2, ↓w_eC, ↓v1, ↓v3]
  have n3 : dLen (.tup (G.roads.map dRoad)) = some (.int (G.roads.length : Int)) := by
    show some (D.int ((G.roads.map dRoad).length : Int)) = _
    rw [List.length_map]
  simp only [o_roads, n3, wD_some, isI_int]
  rw [if_pos (by omega), wD_some, Int.toNat_natCast, rangeL_nats]
  refine mixed_ev hs2 (.inl rfl) (by rw [List.length_map, List.length_range]; omega) fun es s3 hs3 hl hm1 => ?_
  show wD (some (D.lst (cutD es none (some (4 : Int))))) _
  rw [wD_some, show items? (.lst (cutD es none (some (4 : Int)))) = some (cutD es none (some (4 : Int))) from rfl, wD_some]
  refine ⟨fun _ ρ s => s.addr = a ∧ ρ = E15 a none (some (.sh G.d)) (some (.sh (.str G.d.py.shown))) (some (.sh (tD t))) none none none none none none none none none, ⟨hs3, by simp only [wipeE, List.set, E15]⟩, ?_, fun ρ s h => ?_⟩
  · rintro i d ρ s hd ⟨hs, rfl⟩
    obtain ⟨c, hc, rfl⟩ := List.mem_map.mp (hm1 d (mem_cutD (List.mem_of_getElem? hd)))
    have hc := List.mem_range.mp hc
    refine ⟨_, rfl, ?_⟩
    show wS _ (E15 a none (some (.sh G.d)) (some (.sh (.str G.d.py.shown))) (some (.sh (tD t))) (some (.sh (.int c))) none none none none none none none none) s _
    refine road_ev hG h7 ht hc hs fun s w h => ?_
    exact ⟨h, by simp only [wipeE, List.set, E15]⟩
  · obtain ⟨hs, rfl⟩ := h
    have q' := q s (some (.sh G.d)) (some (.sh (.str G.d.py.shown))) (some (.sh (tD t))) hs
    show wS _ _ _ _
    unfold lb11
    rw [w_sIf, w_tE]
    simp only [E15] at q' ⊢
    simp only [↓w_e2, ↓w_e1, ↓v3, ↓v4]
    simp only [hVG.repr, wD_some, o_neSS hVG.text, isB_bl, Bool.false_eq_true, if_false]
    rw [w_sNx]
    exact q'
noncomputable def lbN (N : Int) : C Src := (sFor (iR1 (eC (.int N))) (gN 2) (sSeq lb0 (sSeq lb1 (sSeq lb10 lb11))) [0, 2, 3, 4, 5, 6, 7, 8, 9, 10, 11, 12, 13, 14])
theorem lbN_eq : lb12 = lbN 4 := rfl
theorem lbN_ev {N : Int} (hN : N = 4) {a : Addr} {s : Src} (h0 : s.addr = a) {Q : Ctl → Env → Src → Prop} (q : ∀ ρ s, Q .nx ρ s) : wS (lbN N) (E15 a none none none none none none none none none none none none none) s Q := by
  unfold lbN
  refine w_sFor ?_
  rw [w_iR1, w_eC, isI_int, if_pos (by omega), wD_some]
  refine ⟨fun _ ρ s => s.addr = a ∧ ρ = E15 a none none none none none none none none none none none none none, ⟨h0, by simp only [wipeE, List.set, E15]⟩, ?_, fun ρ s h => q ρ s⟩
  rintro i d ρ s hd ⟨h0, rfl⟩
  have hd : (nats (List.range 4))[i]? = some d := by
    have e : rangeL 0 N.toNat = nats (List.range 4) := by subst hN; rfl
    rw [← e]
    exact hd
  obtain ⟨rfl, hi⟩ := take_succ_range hd
  refine ⟨_, rfl, ?_⟩
  refine lap_ev hi h0 fun s f kept t h0 => ?_
  exact ⟨h0, by simp only [wipeE, List.set, E15]⟩
/-- the last row -/
def G0 : Nt := ⟨3, [(0, 1), (1, 2), (0, 2)]⟩
theorem G0_ok : G0.Ok := ⟨by decide, by decide, by decide, by decide, by decide⟩
theorem last_ev : m_judge_stiff [.tup [.int 3, .tup [.tup [.int 0, .int 1], .tup [.int 1, .int 2], .tup [.int 0, .int 2]]], .tup [.int 0, .int 0, .int 0], .int 0, .tup [.str "lot", .tup [.int 1, .int 2]]] = some .non := by
  have ht : Tn G0 [0, 0, 0] := ⟨rfl, by decide⟩
  have hv : PV (.tup [wLot, tD [1, 2]]) := pv_tw (.inr (.inl rfl)) (tw_nats (c := 30) (by decide) (by decide)) (by decide)
  have h := ev_judge G0_ok ht (r := 0) (by decide) hv.q
  have g : faultD G0 [0, 0, 0] 0 (.tup [wLot, tD [1, 2]]) = .non := fault_good.mpr (.inr ⟨[1, 2], rfl, by decide, by decide, by
    intro r hr hx
    have hr : r < 3 := hr
    match r, hr with
    | 0, _ => revert hx; decide
    | 1, _ => revert hx; decide
    | 2, _ => revert hx; decide, by decide, by decide⟩)
  rw [g] at h
  exact h
theorem law_hm (a : Addr) (ns : List Int) : ∃ ρ' s', m_lawB (lawEnv 13 a) (src0 a ns) = some (.rt (.bl true), ρ', s') := by
  obtain ⟨N, hN, eN⟩ : ∃ N : Int, N = 4 ∧ lbN 4 = lbN N := ⟨4, rfl, rfl⟩
  have key : wS m_lawB (lawEnv 13 a) (src0 a ns) fun c _ _ => c = .rt (.bl true) := by
    rw [lb_eq, lbN_eq, eN, show lawEnv 13 a = E15 a none none none none none none none none none none none none none from rfl]
    rw [w_sSeq]
    refine lbN_ev (a := a) (s := src0 a ns) hN rfl fun ρ s => ?_
    show wS _ _ _ _
    rw [w_sRet]
    simp only [↓w_e1, ↓w_eCallP, ↓w_aCons, ↓w_aNil, ↓w_eC, ↓w_eTup2, ↓w_eTup3]
    rw [last_ev, wD_some]
    rfl
  unfold wS at key
  cases e : m_lawB (lawEnv 13 a) (src0 a ns) with
  | none => rw [e] at key; exact key.elim
  | some t =>
    obtain ⟨c, ρ, s⟩ := t
    rw [e] at key
    exact ⟨ρ, s, by rw [show c = .rt (.bl true) from key]⟩
end Fw
/-! ## Oktail_of -/
set_option Elab.async false
set_option linter.all false
set_option maxRecDepth 100000
set_option maxHeartbeats 4000000
namespace Fw
open PySem PySem.Spec PyProof.Rows L2
section
variable {P : Program} {w : World} {K : PySem.W.Frag} {mg : Str → Option Value} {base : Heap}
/-! ### tail_of -/
abbrev s_tail_of : Stmt := topS 1
theorem sc_tail_of : FnScope ["frame", "turning", "road"] ["frame", "turning", "road"] (defScope s_tail_of) := ⟨rfl, rfl, rfl, by decide +kernel, rfl, by decide +kernel, by decide +kernel⟩
theorem ok_tail_of {f : Addr} {fd : FuncData} (F : Fun K "tail_of" "tail_of" s_tail_of f fd) : FnG P w K mg base CX0 1 f fd ["frame", "turning", "road"] (spP K m_tail_of) := by
  have sc := sc_tail_of
  refine fn_p F sc (by decide) (fun cdv A outer s H E hr => ?_)
  refine ⟨_, (pss_one (ps_ret (pe_ix (ixk (K := K) rIx rfl ix_seq) (pe_ix (ixk (K := K) rIx rfl ix_seq) (pe_ix (ixk (K := K) rIx rfl ix_seq) (pv 0) pe_int (fun _ _ => rfl)) (pv 2) (fun _ _ => rfl)) (pe_ix (ixk (K := K) rIx rfl ix_seq) (pv 1) (pv 2) (fun _ _ => rfl)) (fun _ _ => rfl)))), ?_⟩
  exact (ss_ret (se_2 r2_ix (se_2 r2_ix (se_2 r2_ix se_v se_int) se_v) (se_2 r2_ix se_v se_v)))
end
end Fw
/-! ## Okhead_of -/
set_option Elab.async false
set_option linter.all false
set_option maxRecDepth 100000
set_option maxHeartbeats 4000000
namespace Fw
open PySem PySem.Spec PyProof.Rows L2
section
variable {P : Program} {w : World} {K : PySem.W.Frag} {mg : Str → Option Value} {base : Heap}
/-! ### head_of -/
abbrev s_head_of : Stmt := topS 2
theorem sc_head_of : FnScope ["frame", "turning", "road"] ["frame", "turning", "road"] (defScope s_head_of) := ⟨rfl, rfl, rfl, by decide +kernel, rfl, by decide +kernel, by decide +kernel⟩
theorem ok_head_of {f : Addr} {fd : FuncData} (F : Fun K "head_of" "head_of" s_head_of f fd) : FnG P w K mg base CX0 1 f fd ["frame", "turning", "road"] (spP K m_head_of) := by
  have sc := sc_head_of
  refine fn_p F sc (by decide) (fun cdv A outer s H E hr => ?_)
  refine ⟨_, (pss_one (ps_ret (pe_ix (ixk (K := K) rIx rfl ix_seq) (pe_ix (ixk (K := K) rIx rfl ix_seq) (pe_ix (ixk (K := K) rIx rfl ix_seq) (pv 0) pe_int (fun _ _ => rfl)) (pv 2) (fun _ _ => rfl)) (pe_op op_sub pe_int (pe_ix (ixk (K := K) rIx rfl ix_seq) (pv 1) (pv 2) (fun _ _ => rfl))) (fun _ _ => rfl)))), ?_⟩
  exact (ss_ret (se_2 r2_ix (se_2 r2_ix (se_2 r2_ix se_v se_int) se_v) (se_2 (r2_flat f2_sub) se_int (se_2 r2_ix se_v se_v))))
end
end Fw
/-! ## Okouts_of -/
set_option Elab.async false
set_option linter.all false
set_option maxRecDepth 100000
set_option maxHeartbeats 4000000
namespace Fw
open PySem PySem.Spec PyProof.Rows L2
section
variable {P : Program} {w : World} {K : PySem.W.Frag} {mg : Str → Option Value} {base : Heap}
/-! ### outs_of -/
abbrev s_outs_of : Stmt := topS 3
theorem sc_outs_of : FnScope ["frame", "turning", "found", "road"] ["frame", "turning"] (defScope s_outs_of) := ⟨rfl, rfl, rfl, by decide +kernel, rfl, by decide +kernel, by decide +kernel⟩
theorem ok_outs_of {f : Addr} {fd : FuncData} (F : Fun K "outs_of" "outs_of" s_outs_of f fd) (c_tail_of : Callee P w K mg base 1 "tail_of" ["frame", "turning", "road"] (spP K m_tail_of)) (b_len : mg "len" = none) (b_range : mg "range" = none) (b_tuple : mg "tuple" = none) : FnG P w K mg base CX0 2 f fd ["frame", "turning"] (spP K m_outs_of) := by
  obtain ⟨f_tail_of, fd_tail_of, mg_tail_of, kp_tail_of, b_tail_of, g_tail_of⟩ := c_tail_of
  have sc := sc_outs_of
  refine fn_p F sc (by decide) (fun cdv A outer s H E hr => ?_)
  refine ⟨_, (pss_cons (ps_set (i := 2) sc.nd rfl (by first | exact Or.inl rfl | exact Or.inr rfl) (pe_op op_rep (pe_lst (pa_cons pe_int pa_nil)) (pe_ix (ixk (K := K) rIx rfl ix_seq) (pv 0) pe_int (fun _ _ => rfl))))
      (pss_cons (ps_for PassesOwn.never rfl (pi_range1 rfl b_range (pa_cons (pe_callB (callk (K := K) rLenA rfl call_len_seq) (by rfl) b_len PySem.boot_len (pa_cons (pe_ix (ixk (K := K) rIx rfl ix_seq) (pv 0) pe_int (fun _ _ => rfl)) pa_nil)) pa_nil)) (pg_name (i := 3) sc.nd rfl (by first | exact Or.inl rfl | exact Or.inr rfl))
      (pss_one (ps_augS (pv 2) (pe_callG g_tail_of (hr.mono (by decide)) (by rfl) mg_tail_of kp_tail_of b_tail_of .nil pass0 (pa_cons (pv 0) (pa_cons (pv 1) (pa_cons (pv 3) pa_nil)))) get_list pe_int ip_add set_list)))
      (pss_one (ps_ret (pe_callTy (callk (K := K) rTupleA rfl call_tuple_of) (by rfl) b_tuple (by decide +kernel) (pa_cons (pv 2) pa_nil)))))), ?_⟩
  exact (ss_seq (ss_new (sn_rep (SemN.e (sn_lst (sa_cons se_int sa_nil))) (se_2 r2_ix se_v se_int)))
      (ss_seq (ss_for (dead := [3]) (si_r1 (se_cb1 (b1 f1_len) (se_2 r2_ix se_v se_int))) sg_n
      (ss_augIx (se_callP (sa_cons se_v (sa_cons se_v (sa_cons se_v sa_nil)))) se_int))
      (ss_ret (se_cb1 Fw.b_tuple se_v))))
end
end Fw
/-! ## Okroads_within -/
set_option Elab.async false
set_option linter.all false
set_option maxRecDepth 100000
set_option maxHeartbeats 4000000
namespace Fw
open PySem PySem.Spec PyProof.Rows L2
section
variable {P : Program} {w : World} {K : PySem.W.Frag} {mg : Str → Option Value} {base : Heap}
/-! ### roads_within -/
abbrev s_roads_within : Stmt := topS 5
theorem sc_roads_within : FnScope ["frame", "lot", "a", "b"] ["frame", "lot"] (defScope s_roads_within) := ⟨rfl, rfl, rfl, by decide +kernel, rfl, by decide +kernel, by decide +kernel⟩
theorem ok_roads_within {f : Addr} {fd : FuncData} (F : Fun K "roads_within" "roads_within" s_roads_within f fd) (b_len : mg "len" = none) : FnG P w K mg base CX0 1 f fd ["frame", "lot"] (spP K m_roads_within) := by
  have sc := sc_roads_within
  refine fn_p F sc (by decide) (fun cdv A outer s H E hr => ?_)
  refine ⟨_, (pss_one (ps_ret (pe_callB (callk (K := K) rLenA rfl call_len_seq) (by rfl) b_len PySem.boot_len (pa_cons (pe_lc (own := [("a", 2), ("b", 3)]) (g := (L2.gTup _ 2 (L2.gCons (gName 2) (L2.gCons (gName 3) L2.gNil)))) rfl sc.nd (pi_anyK (K := K) rfl (pe_ix (ixk (K := K) rIx rfl ix_seq) (pv 0) pe_int (fun _ _ => rfl))) (blkOk_by (N := ["frame", "lot", "a", "b"]) (sc := defScope s_roads_within) (by decide +kernel)) (fun _ _ _ _ _ => (pg_tup rfl (pgs_cons (pg_name (i := 2) sc.nd rfl (by first | exact Or.inl rfl | exact Or.inr rfl)) (pgs_cons (pg_name (i := 3) sc.nd rfl (by first | exact Or.inl rfl | exact Or.inr rfl)) pgs_nil)))) (fun _ _ _ _ _ => (pts_one (PW.pt (pw_and (pt_cmpR (opk (K := K) rInA rfl (op_inA (room65 hr))) (pv 2) (pv 1) (by with_unfolding_all rfl)) (pw_and1 (pt_cmpR (opk (K := K) rInA rfl (op_inA (room65 hr))) (pv 3) (pv 1) (by with_unfolding_all rfl))))))) (fun _ _ _ _ _ => pe_int)) pa_nil)))), ?_⟩
  exact (ss_ret (se_cb1 (b1 f1_len) (SemN.e (sn_lc (own := [2, 3]) (si_any (se_2 r2_ix se_v se_int)) (sg_tup (sgs_cons sg_n (sgs_cons sg_n sgs_nil)) (gn_cons (gn_cons gn_nil))) (st_and (st_e (se_2 (r2_flat f2_in) se_v se_v)) (st_e (se_2 (r2_flat f2_in) se_v se_v))) se_int (by decide)))))
end
end Fw
/-! ## Okouts_at -/
set_option Elab.async false
set_option linter.all false
set_option maxRecDepth 100000
set_option maxHeartbeats 4000000
namespace Fw
open PySem PySem.Spec PyProof.Rows L2
section
variable {P : Program} {w : World} {K : PySem.W.Frag} {mg : Str → Option Value} {base : Heap}
/-! ### outs_at -/
abbrev s_outs_at : Stmt := topS 6
theorem sc_outs_at : FnScope ["outs", "lot", "crossing"] ["outs", "lot"] (defScope s_outs_at) := ⟨rfl, rfl, rfl, by decide +kernel, rfl, by decide +kernel, by decide +kernel⟩
theorem ok_outs_at {f : Addr} {fd : FuncData} (F : Fun K "outs_at" "outs_at" s_outs_at f fd) (b_sum : mg "sum" = none) : FnG P w K mg base CX0 1 f fd ["outs", "lot"] (spP K m_outs_at) := by
  have sc := sc_outs_at
  refine fn_p F sc (by decide) (fun cdv A outer s H E hr => ?_)
  refine ⟨_, (pss_one (ps_ret (pe_callB (callk (K := K) rSum rfl (cr_sum rfl)) (by rfl) b_sum (by decide +kernel) (pa_cons (pe_lc (own := [("crossing", 2)]) (g := (gName 2)) rfl sc.nd (pi_anyK (K := K) rfl (pv 1)) (blkOk_by (N := ["outs", "lot", "crossing"]) (sc := defScope s_outs_at) (by decide +kernel)) (fun _ _ _ _ _ => (pg_name (i := 2) sc.nd rfl (by first | exact Or.inl rfl | exact Or.inr rfl))) (fun _ _ _ _ _ => pts_nil) (fun _ _ _ _ _ => (pe_ix (ixk (K := K) rIx rfl ix_seq) (pv 0) (pv 2) (fun _ _ => rfl)))) pa_nil)))), ?_⟩
  exact (ss_ret (se_cb1 (b1 f1_sum) (SemN.e (sn_lc (own := [2]) (si_any se_v) sg_n st_yes (se_2 r2_ix se_v se_v) (by decide)))))
end
end Fw
/-! ## Okways_from -/
set_option Elab.async false
set_option linter.all false
set_option maxRecDepth 100000
set_option maxHeartbeats 4000000
namespace Fw
open PySem PySem.Spec PyProof.Rows L2
section
variable {P : Program} {w : World} {K : PySem.W.Frag} {mg : Str → Option Value} {base : Heap}
/-! ### ways_from -/
abbrev s_ways_from : Stmt := topS 7
theorem sc_ways_from : FnScope ["frame", "turning", "crossing", "found", "late", "here", "road", "tail", "head"] ["frame", "turning", "crossing"] (defScope s_ways_from) := ⟨rfl, rfl, rfl, by decide +kernel, rfl, by decide +kernel, by decide +kernel⟩
theorem ok_ways_from {f : Addr} {fd : FuncData} (F : Fun K "ways_from" "ways_from" s_ways_from f fd) (c_head_of : Callee P w K mg base 1 "head_of" ["frame", "turning", "road"] (spP K m_head_of)) (c_tail_of : Callee P w K mg base 1 "tail_of" ["frame", "turning", "road"] (spP K m_tail_of)) (b_len : mg "len" = none) (b_range : mg "range" = none) : FnG P w K mg base CX0 2 f fd ["frame", "turning", "crossing"] (spP K m_ways_from) := by
  obtain ⟨f_head_of, fd_head_of, mg_head_of, kp_head_of, b_head_of, g_head_of⟩ := c_head_of
  obtain ⟨f_tail_of, fd_tail_of, mg_tail_of, kp_tail_of, b_tail_of, g_tail_of⟩ := c_tail_of
  have sc := sc_ways_from
  refine fn_p F sc (by decide) (fun cdv A outer s H E hr => ?_)
  refine ⟨_, (pss_cons (ps_par (i := 3) (j := 4) rfl sc.nd rfl rfl (by decide) rfl rfl (pa_cons (pe_disp (pps_cons (pv 2) (pe_tup pa_nil) pps_nil) rfl rfl (by simp) (by decide)) (pa_cons (pe_lst (pa_cons (pv 2) pa_nil)) pa_nil)) (by first | rfl | (with_unfolding_all rfl) | (decide +kernel)))
      (pss_cons (ps_while PassesOwn.never (pt_cmpR (opk (K := K) rNeD rfl (op_neD hr.units)) (pv 4) (pe_lst pa_nil) (nomark _))
      (pss_cons (ps_par (i := 5) (j := 4) rfl sc.nd rfl rfl (by decide) rfl rfl (pa_cons (pv 4) (pa_cons (pe_lst pa_nil) pa_nil)) (by first | rfl | (with_unfolding_all rfl) | (decide +kernel)))
      (pss_one (ps_for PassesOwn.never rfl (pi_range1 rfl b_range (pa_cons (pe_callB (callk (K := K) rLenA rfl call_len_seq) (by rfl) b_len PySem.boot_len (pa_cons (pe_ix (ixk (K := K) rIx rfl ix_seq) (pv 0) pe_int (fun _ _ => rfl)) pa_nil)) pa_nil)) (pg_name (i := 6) sc.nd rfl (by first | exact Or.inl rfl | exact Or.inr rfl))
      (pss_cons (ps_par (i := 7) (j := 8) rfl sc.nd rfl rfl (by decide) rfl rfl (pa_cons (pe_callG g_tail_of (hr.mono (by decide)) (by rfl) mg_tail_of kp_tail_of b_tail_of .nil pass0 (pa_cons (pv 0) (pa_cons (pv 1) (pa_cons (pv 6) pa_nil)))) (pa_cons (pe_callG g_head_of (hr.mono (by decide)) (by rfl) mg_head_of kp_head_of b_head_of .nil pass0 (pa_cons (pv 0) (pa_cons (pv 1) (pa_cons (pv 6) pa_nil)))) pa_nil)) (by first | rfl | (with_unfolding_all rfl) | (decide +kernel)))
      (pss_one (ps_if (PW.pt (pw_and (pt_cmpR (opk (K := K) rInA rfl (op_inA (room65 hr))) (pv 7) (pv 5) (by with_unfolding_all rfl)) (pw_and1 (pt_cmp (pc_dnotin (hu_of hr.toRoom) (pv 8) (pv 3))))))
      (pss_cons (ps_dput (hu_of hr.toRoom) (pv 3) (pv 8) (pe_tup (StX.pa_star (pe_dget (hu_of hr.toRoom) (pv 3) (pv 7) (fun _ _ => rfl)) (pa_cons (pv 6) pa_nil))) rfl)
      (pss_one (ps_expr (pe_bmK (K := K) rfl PySem.F.plainAttrs_list PySem.F.slot_list_append PySem.F.type_list_append mt_append (pv 4) (pa_cons (pv 8) pa_nil)))))
      pss_nil)))))))
      (pss_one (ps_ret (pv 3))))), ?_⟩
  exact (ss_seq (ss_par2 (sp_nD (snd_d1 se_v (se_tup sa_nil)) (sp_n (sn_lst (sa_cons se_v sa_nil)) sp_nil)) (by decide))
      (ss_seq (ss_wh (fuel := 1000) (dead := [2, 5, 6, 7, 8]) (st_e (se_blL f2_ne (SemN.e (sn_lst sa_nil))))
      (ss_seq (ss_par2 (sp_e se_v (sp_n (sn_lst sa_nil) sp_nil)) (by decide))
      (ss_for (dead := [2, 6, 7, 8]) (si_r1 (se_cb1 (b1 f1_len) (se_2 r2_ix se_v se_int))) sg_n
      (ss_seq (ss_par2 (sp_e (se_callP (sa_cons se_v (sa_cons se_v (sa_cons se_v sa_nil)))) (sp_e (se_callP (sa_cons se_v (sa_cons se_v (sa_cons se_v sa_nil)))) sp_nil)) (by decide))
      (ss_if (st_and (st_e (se_2 (r2_flat f2_in) se_v se_v)) (st_eB (se_blR f2_knin se_v)))
      (ss_seq (ss_putK (se_tup (sa_star (se_blGet se_v) (sa_cons se_v sa_nil))) se_v)
      (ss_drop (se_app se_v)))
      ss_nx)))))
      (ss_ret se_v)))
end
end Fw
/-! ## Okled_from -/
set_option Elab.async false
set_option linter.all false
set_option maxRecDepth 100000
set_option maxHeartbeats 4000000
namespace Fw
open PySem PySem.Spec PyProof.Rows L2
section
variable {P : Program} {w : World} {K : PySem.W.Frag} {mg : Str → Option Value} {base : Heap}
/-! ### led_from -/
abbrev s_led_from : Stmt := topS 8
theorem sc_led_from : FnScope ["frame", "turning", "crossing"] ["frame", "turning", "crossing"] (defScope s_led_from) := ⟨rfl, rfl, rfl, by decide +kernel, rfl, by decide +kernel, by decide +kernel⟩
theorem ok_led_from {f : Addr} {fd : FuncData} (F : Fun K "led_from" "led_from" s_led_from f fd) (c_ways_from : Callee P w K mg base 2 "ways_from" ["frame", "turning", "crossing"] (spP K m_ways_from)) (b_sorted : mg "sorted" = none) (b_tuple : mg "tuple" = none) : FnG P w K mg base CX0 3 f fd ["frame", "turning", "crossing"] (spP K m_led_from) := by
  obtain ⟨f_ways_from, fd_ways_from, mg_ways_from, kp_ways_from, b_ways_from, g_ways_from⟩ := c_ways_from
  have sc := sc_led_from
  refine fn_p F sc (by decide) (fun cdv A outer s H E hr => ?_)
  refine ⟨_, (pss_one (ps_ret (pe_callTy (callk (K := K) rTupleA rfl call_tuple_of) (by rfl) b_tuple (by decide +kernel) (pa_cons (pe_callB (call_sortedDI rfl) (by rfl) b_sorted (by decide +kernel) (pa_cons (pe_callG g_ways_from (hr.mono (by decide)) (by rfl) mg_ways_from kp_ways_from b_ways_from .nil pass0 (pa_cons (pv 0) (pa_cons (pv 1) (pa_cons (pv 2) pa_nil)))) pa_nil)) pa_nil)))), ?_⟩
  exact (ss_ret (se_cb1 Fw.b_tuple (SemN.e (sn_b1 bn_sortK (se_callP (sa_cons se_v (sa_cons se_v (sa_cons se_v sa_nil))))))))
end
end Fw
/-! ## Okis_crossing_lot -/
set_option Elab.async false
set_option linter.all false
set_option maxRecDepth 100000
set_option maxHeartbeats 4000000
namespace Fw
open PySem PySem.Spec PyProof.Rows L2
section
variable {P : Program} {w : World} {K : PySem.W.Frag} {mg : Str → Option Value} {base : Heap}
/-! ### is_crossing_lot -/
abbrev s_is_crossing_lot : Stmt := topS 9
theorem sc_is_crossing_lot : FnScope ["frame", "value", "one", "k"] ["frame", "value"] (defScope s_is_crossing_lot) := ⟨rfl, rfl, rfl, by decide +kernel, rfl, by decide +kernel, by decide +kernel⟩
theorem ok_is_crossing_lot {f : Addr} {fd : FuncData} (F : Fun K "is_crossing_lot" "is_crossing_lot" s_is_crossing_lot f fd) (b_all : mg "all" = none) (b_bool : mg "bool" = none) (b_int : mg "int" = none) (b_isinstance : mg "isinstance" = none) (b_len : mg "len" = none) (b_range : mg "range" = none) (b_tuple : mg "tuple" = none) : FnG P w K mg base CX0 1 f fd ["frame", "value"] (spP K m_is_crossing_lot) := by
  have sc := sc_is_crossing_lot
  refine fn_p F sc (by decide) (fun cdv A outer s H E hr => ?_)
  refine ⟨_, (pss_cons (ps_if (pt_not (pt_val (pe_callB (callk (K := K) rIsi rfl call_isi) (by rfl) b_isinstance (by decide +kernel) (pa_cons (pv 1) (pa_cons (pe_bltn (by rfl) b_tuple (by decide +kernel) (v := .ty "tuple") rfl) pa_nil)))))
      (pss_one (ps_ret pe_bl))
      pss_nil)
      (pss_cons (ps_if (pt_not (pt_val (pe_callB (callk (K := K) rAll rfl (cr_all rfl)) (by rfl) b_all (by decide +kernel) (pa_cons (pe_lc (own := [("one", 2)]) (g := (gName 2)) rfl sc.nd (pi_anyK (K := K) rfl (pv 1)) (blkOk_by (N := ["frame", "value", "one", "k"]) (sc := defScope s_is_crossing_lot) (by decide +kernel)) (fun _ _ _ _ _ => (pg_name (i := 2) sc.nd rfl (by first | exact Or.inl rfl | exact Or.inr rfl))) (fun _ _ _ _ _ => pts_nil) (fun _ _ _ _ _ => (pe_and (pe_callB (callk (K := K) rIsi rfl call_isi) (by rfl) b_isinstance (by decide +kernel) (pa_cons (pv 2) (pa_cons (pe_bltn (by rfl) b_int (by decide +kernel) (v := .ty "int") rfl) pa_nil))) (pe_and (pe_not (pe_callB (callk (K := K) rIsi rfl call_isi) (by rfl) b_isinstance (by decide +kernel) (pa_cons (pv 2) (pa_cons (pe_bltn (by rfl) b_bool (by decide +kernel) (v := .ty "bool") rfl) pa_nil)))) (pe_one (pe_chain op_le op_lt pe_int (pv 2) (pe_ix (ixk (K := K) rIx rfl ix_seq) (pv 0) pe_int (fun _ _ => rfl)))))))) pa_nil))))
      (pss_one (ps_ret pe_bl))
      pss_nil)
      (pss_one (ps_ret (pe_callB (callk (K := K) rAll rfl (cr_all rfl)) (by rfl) b_all (by decide +kernel) (pa_cons (pe_lc (own := [("k", 3)]) (g := (gName 3)) rfl sc.nd (pi_range1 rfl b_range (pa_cons (pe_op op_sub (pe_callB (callk (K := K) rLenA rfl call_len_seq) (by rfl) b_len PySem.boot_len (pa_cons (pv 1) pa_nil)) pe_int) pa_nil)) (blkOk_by (N := ["frame", "value", "one", "k"]) (sc := defScope s_is_crossing_lot) (by decide +kernel)) (fun _ _ _ _ _ => (pg_name (i := 3) sc.nd rfl (by first | exact Or.inl rfl | exact Or.inr rfl))) (fun _ _ _ _ _ => pts_nil) (fun _ _ _ _ _ => (pe_cmpR op_lt (pe_ix (ixk (K := K) rIx rfl ix_seq) (pv 1) (pv 3) (fun _ _ => rfl)) (pe_ix (ixk (K := K) rIx rfl ix_seq) (pv 1) (pe_op (opk (K := K) rAddA rfl op_addA) (pv 3) pe_int) (fun _ _ => rfl)) (nomark _)))) pa_nil)))))), ?_⟩
  exact (ss_seq (ss_if (st_not (st_eB (se_isi isi_tuple se_v)))
      (ss_ret se_bl)
      ss_nx)
      (ss_seq (ss_if (st_not (st_eB (se_cb1 (b1 f1_all) (SemN.e (sn_lc (own := [2]) (si_any se_v) sg_n st_yes (se_and (se_isi isi_int se_v) (se_and (se_notV (se_isi isi_bool se_v)) (se_chain (r2_flat f2_le) (r2_flat f2_lt) se_int se_v (se_2 r2_ix se_v se_int)))) (by decide))))))
      (ss_ret se_bl)
      ss_nx)
      (ss_ret (se_cb1 (b1 f1_all) (SemN.e (sn_lc (own := [3]) (si_r1 (se_2 (r2_flat f2_sub) (se_cb1 (b1 f1_len) se_v) se_int)) sg_n st_yes (se_2 (r2_flat f2_lt) (se_2 r2_ix se_v se_v) (se_2 r2_ix se_v (se_2 r2_add se_v se_int))) (by decide)))))))
end
end Fw
/-! ## Okis_tight -/
set_option Elab.async false
set_option linter.all false
set_option maxRecDepth 100000
set_option maxHeartbeats 4000000
namespace Fw
open PySem PySem.Spec PyProof.Rows L2
section
variable {P : Program} {w : World} {K : PySem.W.Frag} {mg : Str → Option Value} {base : Heap}
/-! ### is_tight -/
abbrev s_is_tight : Stmt := topS 11
theorem sc_is_tight : FnScope ["frame", "outs", "lot"] ["frame", "outs", "lot"] (defScope s_is_tight) := ⟨rfl, rfl, rfl, by decide +kernel, rfl, by decide +kernel, by decide +kernel⟩
theorem ok_is_tight {f : Addr} {fd : FuncData} (F : Fun K "is_tight" "is_tight" s_is_tight f fd) (c_outs_at : Callee P w K mg base 1 "outs_at" ["outs", "lot"] (spP K m_outs_at)) (c_roads_within : Callee P w K mg base 1 "roads_within" ["frame", "lot"] (spP K m_roads_within)) : FnG P w K mg base CX0 2 f fd ["frame", "outs", "lot"] (spP K m_is_tight) := by
  obtain ⟨f_outs_at, fd_outs_at, mg_outs_at, kp_outs_at, b_outs_at, g_outs_at⟩ := c_outs_at
  obtain ⟨f_roads_within, fd_roads_within, mg_roads_within, kp_roads_within, b_roads_within, g_roads_within⟩ := c_roads_within
  have sc := sc_is_tight
  refine fn_p F sc (by decide) (fun cdv A outer s H E hr => ?_)
  refine ⟨_, (pss_one (ps_ret (pe_cmpR (opk (K := K) rEqD rfl (op_eqD hr.units)) (pe_callG g_roads_within (hr.mono (by decide)) (by rfl) mg_roads_within kp_roads_within b_roads_within .nil pass0 (pa_cons (pv 0) (pa_cons (pv 2) pa_nil))) (pe_callG g_outs_at (hr.mono (by decide)) (by rfl) mg_outs_at kp_outs_at b_outs_at .nil pass0 (pa_cons (pv 1) (pa_cons (pv 2) pa_nil))) (nomark _)))), ?_⟩
  exact (ss_ret (se_2 (r2_flat f2_eq) (se_callP (sa_cons se_v (sa_cons se_v sa_nil))) (se_callP (sa_cons se_v (sa_cons se_v sa_nil)))))
end
end Fw
/-! ## Okring_with -/
set_option Elab.async false
set_option linter.all false
set_option maxRecDepth 100000
set_option maxHeartbeats 4000000
namespace Fw
open PySem PySem.Spec PyProof.Rows L2
section
variable {P : Program} {w : World} {K : PySem.W.Frag} {mg : Str → Option Value} {base : Heap}
/-! ### ring_with -/
abbrev s_ring_with : Stmt := topS 13
theorem sc_ring_with : FnScope ["frame", "turning", "road", "ways", "tail"] ["frame", "turning", "road"] (defScope s_ring_with) := ⟨rfl, rfl, rfl, by decide +kernel, rfl, by decide +kernel, by decide +kernel⟩
theorem ok_ring_with {f : Addr} {fd : FuncData} (F : Fun K "ring_with" "ring_with" s_ring_with f fd) (c_from_least : Callee P w K mg base 1 "from_least" ["ring"] (spFL K)) (c_head_of : Callee P w K mg base 1 "head_of" ["frame", "turning", "road"] (spP K m_head_of)) (c_tail_of : Callee P w K mg base 1 "tail_of" ["frame", "turning", "road"] (spP K m_tail_of)) (c_ways_from : Callee P w K mg base 2 "ways_from" ["frame", "turning", "crossing"] (spP K m_ways_from)) : FnG P w K mg base CX0 3 f fd ["frame", "turning", "road"] (spP K m_ring_with) := by
  obtain ⟨f_from_least, fd_from_least, mg_from_least, kp_from_least, b_from_least, g_from_least⟩ := c_from_least
  obtain ⟨f_head_of, fd_head_of, mg_head_of, kp_head_of, b_head_of, g_head_of⟩ := c_head_of
  obtain ⟨f_tail_of, fd_tail_of, mg_tail_of, kp_tail_of, b_tail_of, g_tail_of⟩ := c_tail_of
  obtain ⟨f_ways_from, fd_ways_from, mg_ways_from, kp_ways_from, b_ways_from, g_ways_from⟩ := c_ways_from
  have sc := sc_ring_with
  refine fn_p F sc (by decide) (fun cdv A outer s H E hr => ?_)
  refine ⟨_, (pss_cons (ps_set (i := 3) sc.nd rfl (by first | exact Or.inl rfl | exact Or.inr rfl) (pe_callG g_ways_from (hr.mono (by decide)) (by rfl) mg_ways_from kp_ways_from b_ways_from .nil pass0 (pa_cons (pv 0) (pa_cons (pv 1) (pa_cons (pe_callG g_head_of (hr.mono (by decide)) (by rfl) mg_head_of kp_head_of b_head_of .nil pass0 (pa_cons (pv 0) (pa_cons (pv 1) (pa_cons (pv 2) pa_nil)))) pa_nil)))))
      (pss_cons (ps_set (i := 4) sc.nd rfl (by first | exact Or.inl rfl | exact Or.inr rfl) (pe_callG g_tail_of (hr.mono (by decide)) (by rfl) mg_tail_of kp_tail_of b_tail_of .nil pass0 (pa_cons (pv 0) (pa_cons (pv 1) (pa_cons (pv 2) pa_nil)))))
      (pss_one (ps_ret (pe_ifExp (pt_cmp (pc_din (hu_of hr.toRoom) (pv 4) (pv 3))) (pe_callG g_from_least (hr.mono (by decide)) (by rfl) mg_from_least kp_from_least b_from_least .nil pass0 (pa_cons (pe_tupZ (pa_cons (pv 2) (StX.pa_star (pe_dget (hu_of hr.toRoom) (pv 3) (pv 4) (fun _ _ => rfl)) pa_nil))) pa_nil)) pe_non))))), ?_⟩
  exact (ss_seq (ss_asg (se_callP (sa_cons se_v (sa_cons se_v (sa_cons (se_callP (sa_cons se_v (sa_cons se_v (sa_cons se_v sa_nil)))) sa_nil)))) sg_n)
      (ss_seq (ss_asg (se_callP (sa_cons se_v (sa_cons se_v (sa_cons se_v sa_nil)))) sg_n)
      (ss_ret (se_if (st_eB (se_2 (r2_flat f2_kin) se_v se_v)) (se_callFL (sa_cons se_v (sa_star (se_2 r2_kget se_v se_v) sa_nil))) se_non))))
end
end Fw
/-! ## Okis_turning_ring -/
set_option Elab.async false
set_option linter.all false
set_option maxRecDepth 100000
set_option maxHeartbeats 4000000
namespace Fw
open PySem PySem.Spec PyProof.Rows L2
section
variable {P : Program} {w : World} {K : PySem.W.Frag} {mg : Str → Option Value} {base : Heap}
/-! ### is_turning_ring -/
abbrev s_is_turning_ring : Stmt := topS 14
theorem sc_is_turning_ring : FnScope ["frame", "turning", "value", "many", "tails", "heads", "road", "tail"] ["frame", "turning", "value"] (defScope s_is_turning_ring) := ⟨rfl, rfl, rfl, by decide +kernel, rfl, by decide +kernel, by decide +kernel⟩
theorem ok_is_turning_ring {f : Addr} {fd : FuncData} (F : Fun K "is_turning_ring" "is_turning_ring" s_is_turning_ring f fd) (c_head_of : Callee P w K mg base 1 "head_of" ["frame", "turning", "road"] (spP K m_head_of)) (c_tail_of : Callee P w K mg base 1 "tail_of" ["frame", "turning", "road"] (spP K m_tail_of)) (b_all : mg "all" = none) (b_bool : mg "bool" = none) (b_int : mg "int" = none) (b_isinstance : mg "isinstance" = none) (b_len : mg "len" = none) (b_min : mg "min" = none) (b_tuple : mg "tuple" = none) : FnG P w K mg base CX0 2 f fd ["frame", "turning", "value"] (spP K m_is_turning_ring) := by
  obtain ⟨f_head_of, fd_head_of, mg_head_of, kp_head_of, b_head_of, g_head_of⟩ := c_head_of
  obtain ⟨f_tail_of, fd_tail_of, mg_tail_of, kp_tail_of, b_tail_of, g_tail_of⟩ := c_tail_of
  have sc := sc_is_turning_ring
  refine fn_p F sc (by decide) (fun cdv A outer s H E hr => ?_)
  refine ⟨_, (pss_cons (ps_set (i := 3) sc.nd rfl (by first | exact Or.inl rfl | exact Or.inr rfl) (pe_callB (callk (K := K) rLenA rfl call_len_seq) (by rfl) b_len PySem.boot_len (pa_cons (pe_ix (ixk (K := K) rIx rfl ix_seq) (pv 0) pe_int (fun _ _ => rfl)) pa_nil)))
      (pss_cons (ps_if (PW.pt (pw_or (pt_not (pt_val (pe_callB (callk (K := K) rIsi rfl call_isi) (by rfl) b_isinstance (by decide +kernel) (pa_cons (pv 2) (pa_cons (pe_bltn (by rfl) b_tuple (by decide +kernel) (v := .ty "tuple") rfl) pa_nil))))) (pw_or1 (pt_cmpR (opk (K := K) rEqD rfl (op_eqD hr.units)) (pv 2) (pe_tup pa_nil) (nomark _)))))
      (pss_one (ps_ret pe_bl))
      pss_nil)
      (pss_cons (ps_if (pt_not (pt_val (pe_callB (callk (K := K) rAll rfl (cr_all rfl)) (by rfl) b_all (by decide +kernel) (pa_cons (pe_lc (own := [("road", 6)]) (g := (gName 6)) rfl sc.nd (pi_anyK (K := K) rfl (pv 2)) (blkOk_by (N := ["frame", "turning", "value", "many", "tails", "heads", "road", "tail"]) (sc := defScope s_is_turning_ring) (by decide +kernel)) (fun _ _ _ _ _ => (pg_name (i := 6) sc.nd rfl (by first | exact Or.inl rfl | exact Or.inr rfl))) (fun _ _ _ _ _ => pts_nil) (fun _ _ _ _ _ => (pe_and (pe_callB (callk (K := K) rIsi rfl call_isi) (by rfl) b_isinstance (by decide +kernel) (pa_cons (pv 6) (pa_cons (pe_bltn (by rfl) b_int (by decide +kernel) (v := .ty "int") rfl) pa_nil))) (pe_and (pe_not (pe_callB (callk (K := K) rIsi rfl call_isi) (by rfl) b_isinstance (by decide +kernel) (pa_cons (pv 6) (pa_cons (pe_bltn (by rfl) b_bool (by decide +kernel) (v := .ty "bool") rfl) pa_nil)))) (pe_one (pe_chain op_le op_lt pe_int (pv 6) (pv 3))))))) pa_nil))))
      (pss_one (ps_ret pe_bl))
      pss_nil)
      (pss_cons (ps_set (i := 4) sc.nd rfl (by first | exact Or.inl rfl | exact Or.inr rfl) (pe_lc (own := [("road", 6)]) (g := (gName 6)) rfl sc.nd (pi_anyK (K := K) rfl (pv 2)) (blkOk_by (N := ["frame", "turning", "value", "many", "tails", "heads", "road", "tail"]) (sc := defScope s_is_turning_ring) (by decide +kernel)) (fun _ _ _ _ _ => (pg_name (i := 6) sc.nd rfl (by first | exact Or.inl rfl | exact Or.inr rfl))) (fun _ _ _ _ _ => pts_nil) (fun _ _ _ _ _ => (pe_callG g_tail_of (hr.mono (by decide)) (by rfl) mg_tail_of kp_tail_of b_tail_of .nil pass0 (pa_cons (pv 0) (pa_cons (pv 1) (pa_cons (pv 6) pa_nil)))))))
      (pss_cons (ps_setLc (i := 5) (own := [("road", 6)]) (g := (gName 6)) rfl sc.nd rfl rfl (sw_true rfl rfl rfl (by decide +kernel)) (pi_anyK (K := K) rfl (pv 2)) (blkOk_by (N := ["frame", "turning", "value", "many", "tails", "heads", "road", "tail"]) (sc := defScope s_is_turning_ring) (by decide +kernel)) (fun _ _ _ _ _ => (pg_name (i := 6) sc.nd rfl (by first | exact Or.inl rfl | exact Or.inr rfl))) (fun _ _ _ _ _ => pts_nil) (fun _ _ _ _ _ => (pe_callG g_head_of (hr.mono (by decide)) (by rfl) mg_head_of kp_head_of b_head_of .nil pass0 (pa_cons (pv 0) (pa_cons (pv 1) (pa_cons (pv 6) pa_nil))))))
      (pss_cons (ps_if (PW.pt (pw_or (pt_cmpR (opk (K := K) rNeD rfl (op_neD hr.units)) (pe_ix (ixk (K := K) rIx rfl ix_seq) (pv 2) pe_int (fun _ _ => rfl)) (pe_callB (callk (K := K) rMinA rfl (cr_minA rfl)) (by rfl) b_min (by decide +kernel) (pa_cons (pv 2) pa_nil)) (nomark _)) (pw_or1 (pt_cmpR (opk (K := K) rNeD rfl (op_neD hr.units)) (pe_lc (own := [("tail", 7)]) (g := (gName 7)) rfl sc.nd (pi_anyK (K := K) rfl (pv 4)) (blkOk_by (N := ["frame", "turning", "value", "many", "tails", "heads", "road", "tail"]) (sc := defScope s_is_turning_ring) (by decide +kernel)) (fun _ _ _ _ _ => (pg_name (i := 7) sc.nd rfl (by first | exact Or.inl rfl | exact Or.inr rfl))) (fun _ _ _ _ _ => (pts_one (pt_cmpR op_gt (pe_bmK (K := K) rfl PySem.F.plainAttrs_list PySem.F.slot_list_count PySem.F.type_list_count (mtk (K := K) rCntI rfl mt_lcount) (pv 4) (pa_cons (pv 7) pa_nil)) pe_int (nomark _)))) (fun _ _ _ _ _ => (pv 7))) (pe_lst pa_nil) (nomark _)))))
      (pss_one (ps_ret pe_bl))
      pss_nil)
      (pss_one (ps_ret (pe_cmpR (opk (K := K) rEqD rfl (op_eqD hr.units)) (pv 5) (pe_op (opk (K := K) rAddA rfl op_addA) (pe_slice (slk (K := K) rSlLT rfl sl_any) (pv 4) (po_some pe_int) po_none) (pe_slice (slk (K := K) rSlLT rfl sl_any) (pv 4) po_none (po_some pe_int))) (nomark _)))))))))), ?_⟩
  exact (ss_seq (ss_asg (se_cb1 (b1 f1_len) (se_2 r2_ix se_v se_int)) sg_n)
      (ss_seq (ss_if (st_or (st_not (st_eB (se_isi isi_tuple se_v))) (st_e (se_2 (r2_flat f2_eq) se_v (se_tup sa_nil))))
      (ss_ret se_bl)
      ss_nx)
      (ss_seq (ss_if (st_not (st_eB (se_cb1 (b1 f1_all) (SemN.e (sn_lc (own := [6]) (si_any se_v) sg_n st_yes (se_and (se_isi isi_int se_v) (se_and (se_notV (se_isi isi_bool se_v)) (se_chain (r2_flat f2_le) (r2_flat f2_lt) se_int se_v se_v))) (by decide))))))
      (ss_ret se_bl)
      ss_nx)
      (ss_seq (ss_asg (SemN.e (sn_lc (own := [6]) (si_any se_v) sg_n st_yes (se_callP (sa_cons se_v (sa_cons se_v (sa_cons se_v sa_nil)))) (by decide))) sg_n)
      (ss_seq (ss_asg (SemN.e (sn_lc (own := [6]) (si_any se_v) sg_n st_yes (se_callP (sa_cons se_v (sa_cons se_v (sa_cons se_v sa_nil)))) (by decide))) sg_n)
      (ss_seq (ss_if (st_or (st_e (se_2 (r2_flat f2_ne) (se_2 r2_ix se_v se_int) (se_cb1 (b1 f1_min) se_v))) (st_e (se_2 (r2_flat f2_ne) (SemN.e (sn_lc (own := [7]) (si_any se_v) sg_n (st_e (se_2 (r2_flat f2_gt) (se_bm fm_count se_v se_v) se_int)) se_v (by decide))) (SemN.e (sn_lst sa_nil)))))
      (ss_ret se_bl)
      ss_nx)
      (ss_ret (se_2 (r2_flat f2_eq) se_v (se_2 r2_add (se_cut rs_cut se_v (so_some se_int) so_none) (se_cut rs_cut se_v so_none (so_some se_int)))))))))))
end
end Fw
/-! ## Okstiff_paper -/
set_option Elab.async false
set_option linter.all false
set_option maxRecDepth 100000
set_option maxHeartbeats 4000000
namespace Fw
open PySem PySem.Spec PyProof.Rows L2
section
variable {P : Program} {w : World} {K : PySem.W.Frag} {mg : Str → Option Value} {base : Heap}
/-! ### stiff_paper -/
abbrev s_stiff_paper : Stmt := topS 15
theorem sc_stiff_paper : FnScope ["frame", "turning", "road", "ring"] ["frame", "turning", "road"] (defScope s_stiff_paper) := ⟨rfl, rfl, rfl, by decide +kernel, rfl, by decide +kernel, by decide +kernel⟩
theorem ok_stiff_paper {f : Addr} {fd : FuncData} (F : Fun K "stiff_paper" "stiff_paper" s_stiff_paper f fd) (c_head_of : Callee P w K mg base 1 "head_of" ["frame", "turning", "road"] (spP K m_head_of)) (c_led_from : Callee P w K mg base 3 "led_from" ["frame", "turning", "crossing"] (spP K m_led_from)) (c_ring_with : Callee P w K mg base 3 "ring_with" ["frame", "turning", "road"] (spP K m_ring_with)) : FnG P w K mg base CX0 4 f fd ["frame", "turning", "road"] (spP K m_stiff_paper) := by
  obtain ⟨f_head_of, fd_head_of, mg_head_of, kp_head_of, b_head_of, g_head_of⟩ := c_head_of
  obtain ⟨f_led_from, fd_led_from, mg_led_from, kp_led_from, b_led_from, g_led_from⟩ := c_led_from
  obtain ⟨f_ring_with, fd_ring_with, mg_ring_with, kp_ring_with, b_ring_with, g_ring_with⟩ := c_ring_with
  have sc := sc_stiff_paper
  refine fn_p F sc (by decide) (fun cdv A outer s H E hr => ?_)
  refine ⟨_, (pss_cons (ps_set (i := 3) sc.nd rfl (by first | exact Or.inl rfl | exact Or.inr rfl) (pe_callG g_ring_with (hr.mono (by decide)) (by rfl) mg_ring_with kp_ring_with b_ring_with .nil pass0 (pa_cons (pv 0) (pa_cons (pv 1) (pa_cons (pv 2) pa_nil)))))
      (pss_one (ps_ret (pe_ifExp (pt_cmp (pc_notN (pv 3))) (pe_tup (pa_cons pe_str (pa_cons (pv 3) pa_nil))) (pe_tup (pa_cons pe_str (pa_cons (pe_callG g_led_from (hr.mono (by decide)) (by rfl) mg_led_from kp_led_from b_led_from .nil pass0 (pa_cons (pv 0) (pa_cons (pv 1) (pa_cons (pe_callG g_head_of (hr.mono (by decide)) (by rfl) mg_head_of kp_head_of b_head_of .nil pass0 (pa_cons (pv 0) (pa_cons (pv 1) (pa_cons (pv 2) pa_nil)))) pa_nil)))) pa_nil))))))), ?_⟩
  exact (ss_seq (ss_asg (se_callP (sa_cons se_v (sa_cons se_v (sa_cons se_v sa_nil)))) sg_n)
      (ss_ret (se_if (st_eB (se_notN se_v)) (se_tup (sa_cons se_str (sa_cons se_v sa_nil))) (se_tup (sa_cons se_str (sa_cons (se_callP (sa_cons se_v (sa_cons se_v (sa_cons (se_callP (sa_cons se_v (sa_cons se_v (sa_cons se_v sa_nil)))) sa_nil)))) sa_nil))))))
end
end Fw
/-! ## Okjudge_stiff -/
set_option Elab.async false
set_option linter.all false
set_option maxRecDepth 100000
set_option maxHeartbeats 4000000
namespace Fw
open PySem PySem.Spec PyProof.Rows L2
section
variable {P : Program} {w : World} {K : PySem.W.Frag} {mg : Str → Option Value} {base : Heap}
/-! ### judge_stiff -/
abbrev s_judge_stiff : Stmt := topS 16
theorem sc_judge_stiff : FnScope ["frame", "turning", "road", "value", "tail", "head"] ["frame", "turning", "road", "value"] (defScope s_judge_stiff) := ⟨rfl, rfl, rfl, by decide +kernel, rfl, by decide +kernel, by decide +kernel⟩
theorem ok_judge_stiff {f : Addr} {fd : FuncData} (F : Fun K "judge_stiff" "judge_stiff" s_judge_stiff f fd) (c_head_of : Callee P w K mg base 1 "head_of" ["frame", "turning", "road"] (spP K m_head_of)) (c_is_crossing_lot : Callee P w K mg base 1 "is_crossing_lot" ["frame", "value"] (spP K m_is_crossing_lot)) (c_is_tight : Callee P w K mg base 2 "is_tight" ["frame", "outs", "lot"] (spP K m_is_tight)) (c_is_turning_ring : Callee P w K mg base 2 "is_turning_ring" ["frame", "turning", "value"] (spP K m_is_turning_ring)) (c_outs_of : Callee P w K mg base 2 "outs_of" ["frame", "turning"] (spP K m_outs_of)) (c_tail_of : Callee P w K mg base 1 "tail_of" ["frame", "turning", "road"] (spP K m_tail_of)) (b_isinstance : mg "isinstance" = none) (b_len : mg "len" = none) (b_str : mg "str" = none) (b_tuple : mg "tuple" = none) : FnG P w K mg base CX0 3 f fd ["frame", "turning", "road", "value"] (spP K m_judge_stiff) := by
  obtain ⟨f_head_of, fd_head_of, mg_head_of, kp_head_of, b_head_of, g_head_of⟩ := c_head_of
  obtain ⟨f_is_crossing_lot, fd_is_crossing_lot, mg_is_crossing_lot, kp_is_crossing_lot, b_is_crossing_lot, g_is_crossing_lot⟩ := c_is_crossing_lot
  obtain ⟨f_is_tight, fd_is_tight, mg_is_tight, kp_is_tight, b_is_tight, g_is_tight⟩ := c_is_tight
  obtain ⟨f_is_turning_ring, fd_is_turning_ring, mg_is_turning_ring, kp_is_turning_ring, b_is_turning_ring, g_is_turning_ring⟩ := c_is_turning_ring
  obtain ⟨f_outs_of, fd_outs_of, mg_outs_of, kp_outs_of, b_outs_of, g_outs_of⟩ := c_outs_of
  obtain ⟨f_tail_of, fd_tail_of, mg_tail_of, kp_tail_of, b_tail_of, g_tail_of⟩ := c_tail_of
  have sc := sc_judge_stiff
  refine fn_p F sc (by decide) (fun cdv A outer s H E hr => ?_)
  refine ⟨_, (pss_cons (ps_if (PW.pt (pw_or (pt_not (pt_val (pe_callB (callk (K := K) rIsi rfl call_isi) (by rfl) b_isinstance (by decide +kernel) (pa_cons (pv 3) (pa_cons (pe_bltn (by rfl) b_tuple (by decide +kernel) (v := .ty "tuple") rfl) pa_nil))))) (pw_or (pt_cmpR (opk (K := K) rNeD rfl (op_neD hr.units)) (pe_callB (callk (K := K) rLenA rfl call_len_seq) (by rfl) b_len PySem.boot_len (pa_cons (pv 3) pa_nil)) pe_int (nomark _)) (pw_or1 (pt_not (pt_val (pe_callB (callk (K := K) rIsi rfl call_isi) (by rfl) b_isinstance (by decide +kernel) (pa_cons (pe_ix (ixk (K := K) rIx rfl ix_seq) (pv 3) pe_int (fun _ _ => rfl)) (pa_cons (pe_bltn (by rfl) b_str (by decide +kernel) (v := .ty "str") rfl) pa_nil)))))))))
      (pss_one (ps_ret (pe_tup (pa_cons pe_str pa_nil))))
      pss_nil)
      (pss_cons (ps_if (pt_cmpR (opk (K := K) rEqD rfl (op_eqD hr.units)) (pe_ix (ixk (K := K) rIx rfl ix_seq) (pv 3) pe_int (fun _ _ => rfl)) pe_str (nomark _))
      (pss_cons (ps_if (pt_not (pt_val (pe_callG g_is_turning_ring (hr.mono (by decide)) (by rfl) mg_is_turning_ring kp_is_turning_ring b_is_turning_ring .nil pass0 (pa_cons (pv 0) (pa_cons (pv 1) (pa_cons (pe_ix (ixk (K := K) rIx rfl ix_seq) (pv 3) pe_int (fun _ _ => rfl)) pa_nil))))))
      (pss_one (ps_ret (pe_tup (pa_cons pe_str pa_nil))))
      pss_nil)
      (pss_one (ps_ret (pe_ifExp (pt_cmpR (opk (K := K) rInA rfl (op_inA (room65 hr))) (pv 2) (pe_ix (ixk (K := K) rIx rfl ix_seq) (pv 3) pe_int (fun _ _ => rfl)) (by with_unfolding_all rfl)) pe_non (pe_tup (pa_cons pe_str pa_nil))))))
      pss_nil)
      (pss_cons (ps_if (PW.pt (pw_or (pt_cmpR (opk (K := K) rNeD rfl (op_neD hr.units)) (pe_ix (ixk (K := K) rIx rfl ix_seq) (pv 3) pe_int (fun _ _ => rfl)) pe_str (nomark _)) (pw_or1 (pt_not (pt_val (pe_callG g_is_crossing_lot (hr.mono (by decide)) (by rfl) mg_is_crossing_lot kp_is_crossing_lot b_is_crossing_lot .nil pass0 (pa_cons (pv 0) (pa_cons (pe_ix (ixk (K := K) rIx rfl ix_seq) (pv 3) pe_int (fun _ _ => rfl)) pa_nil))))))))
      (pss_one (ps_ret (pe_tup (pa_cons pe_str pa_nil))))
      pss_nil)
      (pss_cons (ps_if (pt_not (pt_val (pe_callG g_is_tight (hr.mono (by decide)) (by rfl) mg_is_tight kp_is_tight b_is_tight .nil pass0 (pa_cons (pv 0) (pa_cons (pe_callG g_outs_of (hr.mono (by decide)) (by rfl) mg_outs_of kp_outs_of b_outs_of .nil pass0 (pa_cons (pv 0) (pa_cons (pv 1) pa_nil))) (pa_cons (pe_ix (ixk (K := K) rIx rfl ix_seq) (pv 3) pe_int (fun _ _ => rfl)) pa_nil))))))
      (pss_one (ps_ret (pe_tup (pa_cons pe_str pa_nil))))
      pss_nil)
      (pss_cons (ps_par (i := 4) (j := 5) rfl sc.nd rfl rfl (by decide) rfl rfl (pa_cons (pe_callG g_tail_of (hr.mono (by decide)) (by rfl) mg_tail_of kp_tail_of b_tail_of .nil pass0 (pa_cons (pv 0) (pa_cons (pv 1) (pa_cons (pv 2) pa_nil)))) (pa_cons (pe_callG g_head_of (hr.mono (by decide)) (by rfl) mg_head_of kp_head_of b_head_of .nil pass0 (pa_cons (pv 0) (pa_cons (pv 1) (pa_cons (pv 2) pa_nil)))) pa_nil)) (by first | rfl | (with_unfolding_all rfl) | (decide +kernel)))
      (pss_one (ps_ret (pe_ifExp (PW.pt (pw_and (pt_cmpR (opk (K := K) rInA rfl (op_inA (room65 hr))) (pv 5) (pe_ix (ixk (K := K) rIx rfl ix_seq) (pv 3) pe_int (fun _ _ => rfl)) (by with_unfolding_all rfl)) (pw_and1 (pt_cmpR (opk (K := K) rNotInA rfl (op_notInA (room65 hr))) (pv 4) (pe_ix (ixk (K := K) rIx rfl ix_seq) (pv 3) pe_int (fun _ _ => rfl)) (by with_unfolding_all rfl))))) pe_non (pe_tup (pa_cons pe_str pa_nil)))))))))), ?_⟩
  exact (ss_seq (ss_if (st_or (st_not (st_eB (se_isi isi_tuple se_v))) (st_or (st_e (se_2 (r2_flat f2_ne) (se_cb1 (b1 f1_len) se_v) se_int)) (st_not (st_eB (se_isi isi_str (se_2 r2_ix se_v se_int))))))
      (ss_ret (se_tup (sa_cons se_str sa_nil)))
      ss_nx)
      (ss_seq (ss_if (st_e (se_2 (r2_flat f2_eq) (se_2 r2_ix se_v se_int) se_str))
      (ss_seq (ss_if (st_not (st_eB (se_callP (sa_cons se_v (sa_cons se_v (sa_cons (se_2 r2_ix se_v se_int) sa_nil))))))
      (ss_ret (se_tup (sa_cons se_str sa_nil)))
      ss_nx)
      (ss_ret (se_if (st_e (se_2 (r2_flat f2_in) se_v (se_2 r2_ix se_v se_int))) se_non (se_tup (sa_cons se_str sa_nil)))))
      ss_nx)
      (ss_seq (ss_if (st_or (st_e (se_2 (r2_flat f2_ne) (se_2 r2_ix se_v se_int) se_str)) (st_not (st_eB (se_callP (sa_cons se_v (sa_cons (se_2 r2_ix se_v se_int) sa_nil))))))
      (ss_ret (se_tup (sa_cons se_str sa_nil)))
      ss_nx)
      (ss_seq (ss_if (st_not (st_eB (se_callP (sa_cons se_v (sa_cons (se_callP (sa_cons se_v (sa_cons se_v sa_nil))) (sa_cons (se_2 r2_ix se_v se_int) sa_nil))))))
      (ss_ret (se_tup (sa_cons se_str sa_nil)))
      ss_nx)
      (ss_seq (ss_par2 (sp_e (se_callP (sa_cons se_v (sa_cons se_v (sa_cons se_v sa_nil)))) (sp_e (se_callP (sa_cons se_v (sa_cons se_v (sa_cons se_v sa_nil)))) sp_nil)) (by decide))
      (ss_ret (se_if (st_and (st_e (se_2 (r2_flat f2_in) se_v (se_2 r2_ix se_v se_int))) (st_e (se_2 (r2_flat f2_notIn) se_v (se_2 r2_ix se_v se_int)))) se_non (se_tup (sa_cons se_str sa_nil)))))))))
end
end Fw
/-! ## Ok_law_of -/
set_option Elab.async false
set_option linter.all false
set_option maxRecDepth 100000
set_option maxHeartbeats 4000000
namespace Fw
open PySem PySem.Spec PyProof.Rows L2
section
variable {P : Program} {w : World} {K : PySem.W.Frag} {mg : Str → Option Value} {base : Heap}
/-! ### _law_of -/
abbrev s__law_of : Stmt := topS 20
theorem sc__law_of : FnScope ["source", "some"] ["source", "some"] (defScope s__law_of) := ⟨rfl, rfl, rfl, by decide +kernel, rfl, by decide +kernel, by decide +kernel⟩
theorem ok__law_of {f : Addr} {fd : FuncData} (F : Fun K "_law_of" "_law_of" s__law_of f fd) (c__law_pick : Callee P w K mg base 1 "_law_pick" ["source", "many"] (spPick K)) (b_len : mg "len" = none) : FnG P w K mg base CX0 2 f fd ["source", "some"] (spS K m_law_of) := by
  obtain ⟨f__law_pick, fd__law_pick, mg__law_pick, kp__law_pick, b__law_pick, g__law_pick⟩ := c__law_pick
  have sc := sc__law_of
  refine fn_f srcW (fun _ _ => m_law_ofB) F sc (by decide) (fun cdv A outer s H E hr => ?_)
  refine ⟨_, (pss_one (ps_ret (pe_ix (ixk (K := K) rIx rfl ix_seq) (pv 1) (pe_callG g__law_pick (hr.mono (by decide)) (by rfl) mg__law_pick kp__law_pick b__law_pick .nil pass0 (pa_cons (pv 0) (pa_cons (pe_callB (callk (K := K) rLenA rfl call_len_seq) (by rfl) b_len PySem.boot_len (pa_cons (pv 1) pa_nil)) pa_nil))) (fun _ _ => rfl)))), ?_⟩
  exact fun a c => (ss_ret (se_2 r2_ix se_v (se_callS (sa_cons se_v (sa_cons (se_cb1 (b1 f1_len) se_v) sa_nil)))))
end
end Fw
/-! ## Ok_law_mixed -/
set_option Elab.async false
set_option linter.all false
set_option maxRecDepth 100000
set_option maxHeartbeats 4000000
namespace Fw
open PySem PySem.Spec PyProof.Rows L2
section
variable {P : Program} {w : World} {K : PySem.W.Frag} {mg : Str → Option Value} {base : Heap}
/-! ### _law_mixed -/
abbrev s__law_mixed : Stmt := topS 21
theorem sc__law_mixed : FnScope ["source", "things", "rest", "lap"] ["source", "things"] (defScope s__law_mixed) := ⟨rfl, rfl, rfl, by decide +kernel, rfl, by decide +kernel, by decide +kernel⟩
theorem ok__law_mixed {f : Addr} {fd : FuncData} (F : Fun K "_law_mixed" "_law_mixed" s__law_mixed f fd) (c__law_pick : Callee P w K mg base 1 "_law_pick" ["source", "many"] (spPick K)) (b_len : mg "len" = none) (b_list : mg "list" = none) (b_range : mg "range" = none) : FnG P w K mg base CX0 2 f fd ["source", "things"] (spS K m_law_mixed) := by
  obtain ⟨f__law_pick, fd__law_pick, mg__law_pick, kp__law_pick, b__law_pick, g__law_pick⟩ := c__law_pick
  have sc := sc__law_mixed
  refine fn_f srcW (fun _ _ => m_law_mixedB) F sc (by decide) (fun cdv A outer s H E hr => ?_)
  refine ⟨_, (pss_cons (ps_set (i := 2) sc.nd rfl (by first | exact Or.inl rfl | exact Or.inr rfl) (pe_callTy (callk (K := K) rListA rfl call_list_of) (by rfl) b_list (by decide +kernel) (pa_cons (pv 1) pa_nil)))
      (pss_one (ps_ret (pe_lc (own := [("lap", 3)]) (g := (gName 3)) rfl sc.nd (pi_range1 rfl b_range (pa_cons (pe_callB (callk (K := K) rLenA rfl call_len_seq) (by rfl) b_len PySem.boot_len (pa_cons (pv 2) pa_nil)) pa_nil)) (blkOk_by (N := ["source", "things", "rest", "lap"]) (sc := defScope s__law_mixed) (by decide +kernel)) (fun _ _ _ _ _ => (pg_name (i := 3) sc.nd rfl (by first | exact Or.inl rfl | exact Or.inr rfl))) (fun _ _ _ _ _ => pts_nil) (fun _ _ _ _ _ => (pe_bmK (K := K) rfl PySem.F.plainAttrs_list PySem.F.slot_list_pop PySem.F.type_list_pop mt_popAt (pv 2) (pa_cons (pe_callG g__law_pick (hr.mono (by decide)) (by rfl) mg__law_pick kp__law_pick b__law_pick .nil pass0 (pa_cons (pv 0) (pa_cons (pe_callB (callk (K := K) rLenA rfl call_len_seq) (by rfl) b_len PySem.boot_len (pa_cons (pv 2) pa_nil)) pa_nil))) pa_nil))))))), ?_⟩
  exact fun a c => (ss_seq (ss_new (sn_b1 bn_list se_v))
      (ss_ret (SemN.e (sn_lc (own := [3]) (si_r1 (se_bl1 f1_len)) sg_n st_yes (se_popAt (se_callS (sa_cons se_v (sa_cons (se_bl1 f1_len) sa_nil)))) (by decide)))))
end
end Fw
/-! ## Ok_law_frame -/
set_option Elab.async false
set_option linter.all false
set_option maxRecDepth 100000
set_option maxHeartbeats 4000000
namespace Fw
open PySem PySem.Spec PyProof.Rows L2
section
variable {P : Program} {w : World} {K : PySem.W.Frag} {mg : Str → Option Value} {base : Heap}
/-! ### _law_frame -/
abbrev s__law_frame : Stmt := topS 22
theorem sc__law_frame : FnScope ["source", "most", "roads", "n", "found", "lap", "a", "b"] ["source", "most", "roads"] (defScope s__law_frame) := ⟨rfl, rfl, rfl, by decide +kernel, rfl, by decide +kernel, by decide +kernel⟩
theorem ok__law_frame {f : Addr} {fd : FuncData} (F : Fun K "_law_frame" "_law_frame" s__law_frame f fd) (c__law_pick : Callee P w K mg base 1 "_law_pick" ["source", "many"] (spPick K)) (b_int : mg "int" = none) (b_range : mg "range" = none) (b_tuple : mg "tuple" = none) : FnG P w K mg base CX0 2 f fd ["source", "most", "roads"] (spS K m_law_frame) := by
  obtain ⟨f__law_pick, fd__law_pick, mg__law_pick, kp__law_pick, b__law_pick, g__law_pick⟩ := c__law_pick
  have sc := sc__law_frame
  refine fn_f srcW (fun _ _ => m_law_frameB) F sc (by decide) (fun cdv A outer s H E hr => ?_)
  refine ⟨_, (pss_cons (ps_par (i := 3) (j := 4) rfl sc.nd rfl rfl (by decide) rfl rfl (pa_cons (pe_op (opk (K := K) rAddA rfl op_addA) pe_int (pe_callG g__law_pick (hr.mono (by decide)) (by rfl) mg__law_pick kp__law_pick b__law_pick .nil pass0 (pa_cons (pv 0) (pa_cons (pv 1) pa_nil)))) (pa_cons (pe_lst pa_nil) pa_nil)) (by first | rfl | (with_unfolding_all rfl) | (decide +kernel)))
      (pss_cons (ps_for PassesOwn.never rfl (pi_range1 rfl b_range (pa_cons (pe_op (opk (K := K) rAddA rfl op_addA) pe_int (pe_callG g__law_pick (hr.mono (by decide)) (by rfl) mg__law_pick kp__law_pick b__law_pick .nil pass0 (pa_cons (pv 0) (pa_cons (pv 2) pa_nil)))) pa_nil)) (pg_name (i := 5) sc.nd rfl (by first | exact Or.inl rfl | exact Or.inr rfl))
      (pss_cons (ps_par (i := 6) (j := 7) rfl sc.nd rfl rfl (by decide) rfl rfl (pa_cons (pe_callG g__law_pick (hr.mono (by decide)) (by rfl) mg__law_pick kp__law_pick b__law_pick .nil pass0 (pa_cons (pv 0) (pa_cons (pv 3) pa_nil))) (pa_cons (pe_callG g__law_pick (hr.mono (by decide)) (by rfl) mg__law_pick kp__law_pick b__law_pick .nil pass0 (pa_cons (pv 0) (pa_cons (pv 3) pa_nil))) pa_nil)) (by first | rfl | (with_unfolding_all rfl) | (decide +kernel)))
      (pss_cons (ps_set (i := 7) sc.nd rfl (by first | exact Or.inl rfl | exact Or.inr rfl) (pe_ifExp (PW.pt (pw_and (pt_cmpR (opk (K := K) rEqD rfl (op_eqD hr.units)) (pv 6) (pv 7) (nomark _)) (pw_and1 (pt_cmpR op_gt (pe_callG g__law_pick (hr.mono (by decide)) (by rfl) mg__law_pick kp__law_pick b__law_pick .nil pass0 (pa_cons (pv 0) (pa_cons pe_int pa_nil))) pe_int (nomark _))))) (pe_op op_mod (pe_callTy call_int1 (by rfl) b_int (by decide +kernel) (pa_cons (pe_op (opk (K := K) rAddA rfl op_addA) (pe_op (opk (K := K) rAddA rfl op_addA) (pv 6) pe_int) (pe_callG g__law_pick (hr.mono (by decide)) (by rfl) mg__law_pick kp__law_pick b__law_pick .nil pass0 (pa_cons (pv 0) (pa_cons (pv 3) pa_nil)))) pa_nil)) (pv 3)) (pv 7)))
      (pss_one (ps_expr (pe_bmK (K := K) rfl PySem.F.plainAttrs_list PySem.F.slot_list_append PySem.F.type_list_append mt_append (pv 4) (pa_cons (pe_tup (pa_cons (pv 6) (pa_cons (pv 7) pa_nil))) pa_nil)))))))
      (pss_one (ps_ret (pe_tup (pa_cons (pv 3) (pa_cons (pe_callTy (callk (K := K) rTupleA rfl call_tuple_of) (by rfl) b_tuple (by decide +kernel) (pa_cons (pv 4) pa_nil)) pa_nil))))))), ?_⟩
  exact fun a c => (ss_seq (ss_par2 (sp_e (se_2 r2_add se_int (se_callS (sa_cons se_v (sa_cons se_v sa_nil)))) (sp_n (sn_lst sa_nil) sp_nil)) (by decide))
      (ss_seq (ss_for (dead := [1, 2, 5, 6, 7]) (si_r1 (se_2 r2_add se_int (se_callS (sa_cons se_v (sa_cons se_v sa_nil))))) sg_n
      (ss_seq (ss_par2 (sp_e (se_callS (sa_cons se_v (sa_cons se_v sa_nil))) (sp_e (se_callS (sa_cons se_v (sa_cons se_v sa_nil))) sp_nil)) (by decide))
      (ss_seq (ss_asg (se_if (st_and (st_e (se_2 (r2_flat f2_eq) se_v se_v)) (st_e (se_2 (r2_flat f2_gt) (se_callS (sa_cons se_v (sa_cons se_int sa_nil))) se_int))) (se_2 (r2_flat f2_mod) (se_cb1 (b1 f1_int) (se_2 r2_add (se_2 r2_add se_v se_int) (se_callS (sa_cons se_v (sa_cons se_v sa_nil))))) se_v) se_v) sg_n)
      (ss_drop (se_app (se_tup (sa_cons se_v (sa_cons se_v sa_nil))))))))
      (ss_ret (se_tup (sa_cons se_v (sa_cons (se_cb1 Fw.b_tuple se_v) sa_nil))))))
end
end Fw
/-! ## Ok_law_turning -/
set_option Elab.async false
set_option linter.all false
set_option maxRecDepth 100000
set_option maxHeartbeats 4000000
namespace Fw
open PySem PySem.Spec PyProof.Rows L2
section
variable {P : Program} {w : World} {K : PySem.W.Frag} {mg : Str → Option Value} {base : Heap}
/-! ### _law_turning -/
abbrev s__law_turning : Stmt := topS 23
theorem sc__law_turning : FnScope ["source", "frame", "road"] ["source", "frame"] (defScope s__law_turning) := ⟨rfl, rfl, rfl, by decide +kernel, rfl, by decide +kernel, by decide +kernel⟩
theorem ok__law_turning {f : Addr} {fd : FuncData} (F : Fun K "_law_turning" "_law_turning" s__law_turning f fd) (c__law_pick : Callee P w K mg base 1 "_law_pick" ["source", "many"] (spPick K)) (b_tuple : mg "tuple" = none) : FnG P w K mg base CX0 2 f fd ["source", "frame"] (spS K m_law_turning) := by
  obtain ⟨f__law_pick, fd__law_pick, mg__law_pick, kp__law_pick, b__law_pick, g__law_pick⟩ := c__law_pick
  have sc := sc__law_turning
  refine fn_f srcW (fun _ _ => m_law_turningB) F sc (by decide) (fun cdv A outer s H E hr => ?_)
  refine ⟨_, (pss_one (ps_ret (pe_callTy (callk (K := K) rTupleA rfl call_tuple_of) (by rfl) b_tuple (by decide +kernel) (pa_cons (pe_lc (own := [("road", 2)]) (g := (gName 2)) rfl sc.nd (pi_anyK (K := K) rfl (pe_ix (ixk (K := K) rIx rfl ix_seq) (pv 1) pe_int (fun _ _ => rfl))) (blkOk_by (N := ["source", "frame", "road"]) (sc := defScope s__law_turning) (by decide +kernel)) (fun _ _ _ _ _ => (pg_name (i := 2) sc.nd rfl (by first | exact Or.inl rfl | exact Or.inr rfl))) (fun _ _ _ _ _ => pts_nil) (fun _ _ _ _ _ => (pe_callG g__law_pick (hr.mono (by decide)) (by rfl) mg__law_pick kp__law_pick b__law_pick .nil pass0 (pa_cons (pv 0) (pa_cons pe_int pa_nil))))) pa_nil)))), ?_⟩
  exact fun a c => (ss_ret (se_cb1 Fw.b_tuple (SemN.e (sn_lc (own := [2]) (si_any (se_2 r2_ix se_v se_int)) sg_n st_yes (se_callS (sa_cons se_v (sa_cons se_int sa_nil))) (by decide)))))
end
end Fw
/-! ## Ok_law_outs -/
set_option Elab.async false
set_option linter.all false
set_option maxRecDepth 100000
set_option maxHeartbeats 4000000
namespace Fw
open PySem PySem.Spec PyProof.Rows L2
section
variable {P : Program} {w : World} {K : PySem.W.Frag} {mg : Str → Option Value} {base : Heap}
/-! ### _law_outs -/
abbrev s__law_outs : Stmt := topS 24
theorem sc__law_outs : FnScope ["frame", "turning", "found", "pair", "mark"] ["frame", "turning"] (defScope s__law_outs) := ⟨rfl, rfl, rfl, by decide +kernel, rfl, by decide +kernel, by decide +kernel⟩
theorem ok__law_outs {f : Addr} {fd : FuncData} (F : Fun K "_law_outs" "_law_outs" s__law_outs f fd) (b_tuple : mg "tuple" = none) (b_zip : mg "zip" = none) : FnG P w K mg base CX0 1 f fd ["frame", "turning"] (spP K m_law_outs) := by
  have sc := sc__law_outs
  refine fn_p F sc (by decide) (fun cdv A outer s H E hr => ?_)
  refine ⟨_, (pss_cons (ps_set (i := 2) sc.nd rfl (by first | exact Or.inl rfl | exact Or.inr rfl) (pe_op op_rep (pe_lst (pa_cons pe_int pa_nil)) (pe_ix (ixk (K := K) rIx rfl ix_seq) (pv 0) pe_int (fun _ _ => rfl))))
      (pss_cons (ps_for PassesOwn.never rfl (pi_zipK (K := K) rfl (by rfl) b_zip (pa_cons (pe_ix (ixk (K := K) rIx rfl ix_seq) (pv 0) pe_int (fun _ _ => rfl)) (pa_cons (pv 1) pa_nil))) (pg_tup rfl (pgs_cons (pg_name (i := 3) sc.nd rfl (by first | exact Or.inl rfl | exact Or.inr rfl)) (pgs_cons (pg_name (i := 4) sc.nd rfl (by first | exact Or.inl rfl | exact Or.inr rfl)) pgs_nil)))
      (pss_one (ps_asg (pe_op (opk (K := K) rAddA rfl op_addA) (pe_ix (ixk (K := K) rIx rfl ix_seq) (pv 2) (pe_ix (ixk (K := K) rIx rfl ix_seq) (pv 3) (pv 4) (fun _ _ => rfl)) (fun _ _ => rfl)) pe_int) (pg_sub (pv 2) (pe_ix (ixk (K := K) rIx rfl ix_seq) (pv 3) (pv 4) (fun _ _ => rfl)) set_list))))
      (pss_one (ps_ret (pe_callTy (callk (K := K) rTupleA rfl call_tuple_of) (by rfl) b_tuple (by decide +kernel) (pa_cons (pv 2) pa_nil)))))), ?_⟩
  exact (ss_seq (ss_new (sn_rep (SemN.e (sn_lst (sa_cons se_int sa_nil))) (se_2 r2_ix se_v se_int)))
      (ss_seq (ss_for (dead := [0, 1, 3, 4]) (si_zip (se_2 r2_ix se_v se_int) se_v) (sg_tup (sgs_cons sg_n (sgs_cons sg_n sgs_nil)) (gn_cons (gn_cons gn_nil)))
      (ss_setIx (se_2 r2_add (se_blIx (se_2 r2_ix se_v se_v)) se_int) (se_2 r2_ix se_v se_v)))
      (ss_ret (se_cb1 Fw.b_tuple se_v))))
end
end Fw
/-! ## Ok_law_led -/
set_option Elab.async false
set_option linter.all false
set_option maxRecDepth 100000
set_option maxHeartbeats 4000000
namespace Fw
open PySem PySem.Spec PyProof.Rows L2
section
variable {P : Program} {w : World} {K : PySem.W.Frag} {mg : Str → Option Value} {base : Heap}
/-! ### _law_led -/
abbrev s__law_led : Stmt := topS 25
theorem sc__law_led : FnScope ["frame", "turning", "crossing", "found", "lap", "pair", "mark"] ["frame", "turning", "crossing"] (defScope s__law_led) := ⟨rfl, rfl, rfl, by decide +kernel, rfl, by decide +kernel, by decide +kernel⟩
theorem ok__law_led {f : Addr} {fd : FuncData} (F : Fun K "_law_led" "_law_led" s__law_led f fd) (b_range : mg "range" = none) (b_sorted : mg "sorted" = none) (b_zip : mg "zip" = none) : FnG P w K mg base CX0 1 f fd ["frame", "turning", "crossing"] (spP K m_law_led) := by
  have sc := sc__law_led
  refine fn_p F sc (by decide) (fun cdv A outer s H E hr => ?_)
  refine ⟨_, (pss_cons (ps_set (i := 3) sc.nd rfl (by first | exact Or.inl rfl | exact Or.inr rfl) (pe_disp (pps_cons (pv 2) pe_int pps_nil) rfl rfl (by simp) (by decide)))
      (pss_cons (ps_for PassesOwn.never rfl (pi_range1 rfl b_range (pa_cons (pe_ix (ixk (K := K) rIx rfl ix_seq) (pv 0) pe_int (fun _ _ => rfl)) pa_nil)) (pg_name (i := 4) sc.nd rfl (by first | exact Or.inl rfl | exact Or.inr rfl))
      (pss_one (ps_for PassesOwn.never rfl (pi_zipK (K := K) rfl (by rfl) b_zip (pa_cons (pe_ix (ixk (K := K) rIx rfl ix_seq) (pv 0) pe_int (fun _ _ => rfl)) (pa_cons (pv 1) pa_nil))) (pg_tup rfl (pgs_cons (pg_name (i := 5) sc.nd rfl (by first | exact Or.inl rfl | exact Or.inr rfl)) (pgs_cons (pg_name (i := 6) sc.nd rfl (by first | exact Or.inl rfl | exact Or.inr rfl)) pgs_nil)))
      (pss_one (ps_if (pt_cmp (pc_din (hu_of hr.toRoom) (pe_ix (ixk (K := K) rIx rfl ix_seq) (pv 5) (pv 6) (fun _ _ => rfl)) (pv 3)))
      (pss_one (ps_dput (hu_of hr.toRoom) (pv 3) (pe_ix (ixk (K := K) rIx rfl ix_seq) (pv 5) (pe_op op_sub pe_int (pv 6)) (fun _ _ => rfl)) pe_int rfl))
      pss_nil)))))
      (pss_one (ps_ret (pe_callB (call_sortedDI rfl) (by rfl) b_sorted (by decide +kernel) (pa_cons (pv 3) pa_nil)))))), ?_⟩
  exact (ss_seq (ss_newD (snd_d1 se_v se_int))
      (ss_seq (ss_for (dead := [2, 4, 5, 6]) (si_r1 (se_2 r2_ix se_v se_int)) sg_n
      (ss_for (dead := [2, 4, 5, 6]) (si_zip (se_2 r2_ix se_v se_int) se_v) (sg_tup (sgs_cons sg_n (sgs_cons sg_n sgs_nil)) (gn_cons (gn_cons gn_nil)))
      (ss_if (st_eB (se_blR f2_kin (se_2 r2_ix se_v se_v)))
      (ss_putK se_int (se_2 r2_ix se_v (se_2 (r2_flat f2_sub) se_int se_v)))
      ss_nx)))
      (ss_ret (SemN.e (sn_b1 bn_sortK se_v)))))
end
end Fw
/-! ## Ok_law_all_lots -/
set_option Elab.async false
set_option linter.all false
set_option maxRecDepth 100000
set_option maxHeartbeats 4000000
namespace Fw
open PySem PySem.Spec PyProof.Rows L2
section
variable {P : Program} {w : World} {K : PySem.W.Frag} {mg : Str → Option Value} {base : Heap}
/-! ### _law_all_lots -/
abbrev s__law_all_lots : Stmt := topS 26
theorem sc__law_all_lots : FnScope ["n", "found", "c", "lot"] ["n"] (defScope s__law_all_lots) := ⟨rfl, rfl, rfl, by decide +kernel, rfl, by decide +kernel, by decide +kernel⟩
theorem ok__law_all_lots {f : Addr} {fd : FuncData} (F : Fun K "_law_all_lots" "_law_all_lots" s__law_all_lots f fd) (b_range : mg "range" = none) : FnG P w K mg base CX0 1 f fd ["n"] (spP K m_law_all_lots) := by
  have sc := sc__law_all_lots
  refine fn_p F sc (by decide) (fun cdv A outer s H E hr => ?_)
  refine ⟨_, (pss_cons (ps_set (i := 1) sc.nd rfl (by first | exact Or.inl rfl | exact Or.inr rfl) (pe_lst (pa_cons (pe_tup pa_nil) pa_nil)))
      (pss_cons (ps_for PassesOwn.never rfl (pi_range1 rfl b_range (pa_cons (pv 0) pa_nil)) (pg_name (i := 2) sc.nd rfl (by first | exact Or.inl rfl | exact Or.inr rfl))
      (pss_one (ps_set (i := 1) sc.nd rfl (by first | exact Or.inl rfl | exact Or.inr rfl) (pe_op (opk (K := K) rAddA rfl op_addA) (pv 1) (pe_lc (own := [("lot", 3)]) (g := (gName 3)) rfl sc.nd (pi_anyK (K := K) rfl (pv 1)) (blkOk_by (N := ["n", "found", "c", "lot"]) (sc := defScope s__law_all_lots) (by decide +kernel)) (fun _ _ _ _ _ => (pg_name (i := 3) sc.nd rfl (by first | exact Or.inl rfl | exact Or.inr rfl))) (fun _ _ _ _ _ => pts_nil) (fun _ _ _ _ _ => (pe_op (opk (K := K) rAddA rfl op_addA) (pv 3) (pe_tup (pa_cons (pv 2) pa_nil)))))))))
      (pss_one (ps_ret (pv 1))))), ?_⟩
  exact (ss_seq (ss_asg (SemN.e (sn_lst (sa_cons (se_tup sa_nil) sa_nil))) sg_n)
      (ss_seq (ss_for (dead := [0, 2]) (si_r1 se_v) sg_n
      (ss_asg (se_2 r2_add se_v (SemN.e (sn_lc (own := [3]) (si_any se_v) sg_n st_yes (se_2 r2_add se_v (se_tup (sa_cons se_v sa_nil))) (by decide)))) sg_n))
      (ss_ret se_v)))
end
end Fw
/-! ## Ok_law_within -/
set_option Elab.async false
set_option linter.all false
set_option maxRecDepth 100000
set_option maxHeartbeats 4000000
namespace Fw
open PySem PySem.Spec PyProof.Rows L2
section
variable {P : Program} {w : World} {K : PySem.W.Frag} {mg : Str → Option Value} {base : Heap}
/-! ### _law_within -/
abbrev s__law_within : Stmt := topS 27
theorem sc__law_within : FnScope ["frame", "lot", "a", "b"] ["frame", "lot"] (defScope s__law_within) := ⟨rfl, rfl, rfl, by decide +kernel, rfl, by decide +kernel, by decide +kernel⟩
theorem ok__law_within {f : Addr} {fd : FuncData} (F : Fun K "_law_within" "_law_within" s__law_within f fd) (b_len : mg "len" = none) : FnG P w K mg base CX0 1 f fd ["frame", "lot"] (spP K m_law_within) := by
  have sc := sc__law_within
  refine fn_p F sc (by decide) (fun cdv A outer s H E hr => ?_)
  refine ⟨_, (pss_one (ps_ret (pe_callB (callk (K := K) rLenA rfl call_len_seq) (by rfl) b_len PySem.boot_len (pa_cons (pe_lc (own := [("a", 2), ("b", 3)]) (g := (L2.gTup _ 2 (L2.gCons (gName 2) (L2.gCons (gName 3) L2.gNil)))) rfl sc.nd (pi_anyK (K := K) rfl (pe_ix (ixk (K := K) rIx rfl ix_seq) (pv 0) pe_int (fun _ _ => rfl))) (blkOk_by (N := ["frame", "lot", "a", "b"]) (sc := defScope s__law_within) (by decide +kernel)) (fun _ _ _ _ _ => (pg_tup rfl (pgs_cons (pg_name (i := 2) sc.nd rfl (by first | exact Or.inl rfl | exact Or.inr rfl)) (pgs_cons (pg_name (i := 3) sc.nd rfl (by first | exact Or.inl rfl | exact Or.inr rfl)) pgs_nil)))) (fun _ _ _ _ _ => (pts_one (PW.pt (pw_and (pt_cmpR (opk (K := K) rInA rfl (op_inA (room65 hr))) (pv 2) (pv 1) (by with_unfolding_all rfl)) (pw_and1 (pt_cmpR (opk (K := K) rInA rfl (op_inA (room65 hr))) (pv 3) (pv 1) (by with_unfolding_all rfl))))))) (fun _ _ _ _ _ => pe_int)) pa_nil)))), ?_⟩
  exact (ss_ret (se_cb1 (b1 f1_len) (SemN.e (sn_lc (own := [2, 3]) (si_any (se_2 r2_ix se_v se_int)) (sg_tup (sgs_cons sg_n (sgs_cons sg_n sgs_nil)) (gn_cons (gn_cons gn_nil))) (st_and (st_e (se_2 (r2_flat f2_in) se_v se_v)) (st_e (se_2 (r2_flat f2_in) se_v se_v))) se_int (by decide)))))
end
end Fw
/-! ## Ok_law_is_int -/
set_option Elab.async false
set_option linter.all false
set_option maxRecDepth 100000
set_option maxHeartbeats 4000000
namespace Fw
open PySem PySem.Spec PyProof.Rows L2
section
variable {P : Program} {w : World} {K : PySem.W.Frag} {mg : Str → Option Value} {base : Heap}
/-! ### _law_is_int -/
abbrev s__law_is_int : Stmt := topS 28
theorem sc__law_is_int : FnScope ["value"] ["value"] (defScope s__law_is_int) := ⟨rfl, rfl, rfl, by decide +kernel, rfl, by decide +kernel, by decide +kernel⟩
theorem ok__law_is_int {f : Addr} {fd : FuncData} (F : Fun K "_law_is_int" "_law_is_int" s__law_is_int f fd) (b_bool : mg "bool" = none) (b_int : mg "int" = none) (b_isinstance : mg "isinstance" = none) : FnG P w K mg base CX0 1 f fd ["value"] (spP K m_law_is_int) := by
  have sc := sc__law_is_int
  refine fn_p F sc (by decide) (fun cdv A outer s H E hr => ?_)
  refine ⟨_, (pss_one (ps_ret (pe_and (pe_callB (callk (K := K) rIsi rfl call_isi) (by rfl) b_isinstance (by decide +kernel) (pa_cons (pv 0) (pa_cons (pe_bltn (by rfl) b_int (by decide +kernel) (v := .ty "int") rfl) pa_nil))) (pe_one (pe_not (pe_callB (callk (K := K) rIsi rfl call_isi) (by rfl) b_isinstance (by decide +kernel) (pa_cons (pv 0) (pa_cons (pe_bltn (by rfl) b_bool (by decide +kernel) (v := .ty "bool") rfl) pa_nil)))))))), ?_⟩
  exact (ss_ret (se_and (se_isi isi_int se_v) (se_notV (se_isi isi_bool se_v))))
end
end Fw
/-! ## Ok_law_is_lot -/
set_option Elab.async false
set_option linter.all false
set_option maxRecDepth 100000
set_option maxHeartbeats 4000000
namespace Fw
open PySem PySem.Spec PyProof.Rows L2
section
variable {P : Program} {w : World} {K : PySem.W.Frag} {mg : Str → Option Value} {base : Heap}
/-! ### _law_is_lot -/
abbrev s__law_is_lot : Stmt := topS 29
theorem sc__law_is_lot : FnScope ["value", "many", "one", "k"] ["value", "many"] (defScope s__law_is_lot) := ⟨rfl, rfl, rfl, by decide +kernel, rfl, by decide +kernel, by decide +kernel⟩
theorem ok__law_is_lot {f : Addr} {fd : FuncData} (F : Fun K "_law_is_lot" "_law_is_lot" s__law_is_lot f fd) (c__law_is_int : Callee P w K mg base 1 "_law_is_int" ["value"] (spP K m_law_is_int)) (b_isinstance : mg "isinstance" = none) (b_len : mg "len" = none) (b_range : mg "range" = none) (b_tuple : mg "tuple" = none) : FnG P w K mg base CX0 2 f fd ["value", "many"] (spP K m_law_is_lot) := by
  obtain ⟨f__law_is_int, fd__law_is_int, mg__law_is_int, kp__law_is_int, b__law_is_int, g__law_is_int⟩ := c__law_is_int
  have sc := sc__law_is_lot
  refine fn_p F sc (by decide) (fun cdv A outer s H E hr => ?_)
  refine ⟨_, (pss_cons (ps_if (PW.pt (pw_or (pt_not (pt_val (pe_callB (callk (K := K) rIsi rfl call_isi) (by rfl) b_isinstance (by decide +kernel) (pa_cons (pv 0) (pa_cons (pe_bltn (by rfl) b_tuple (by decide +kernel) (v := .ty "tuple") rfl) pa_nil))))) (pw_or1 (pt_cmpR (opk (K := K) rNeD rfl (op_neD hr.units)) (pe_lc (own := [("one", 2)]) (g := (gName 2)) rfl sc.nd (pi_anyK (K := K) rfl (pv 0)) (blkOk_by (N := ["value", "many", "one", "k"]) (sc := defScope s__law_is_lot) (by decide +kernel)) (fun _ _ _ _ _ => (pg_name (i := 2) sc.nd rfl (by first | exact Or.inl rfl | exact Or.inr rfl))) (fun _ _ _ _ _ => (pts_one (PW.pt (pw_or (pt_not (pt_val (pe_callG g__law_is_int (hr.mono (by decide)) (by rfl) mg__law_is_int kp__law_is_int b__law_is_int .nil pass0 (pa_cons (pv 2) pa_nil)))) (pw_or1 (pt_not (pt_chain op_le op_lt pe_int (pv 2) (pv 1)))))))) (fun _ _ _ _ _ => (pv 2))) (pe_lst pa_nil) (nomark _)))))
      (pss_one (ps_ret pe_bl))
      pss_nil)
      (pss_one (ps_ret (pe_cmpR (opk (K := K) rEqD rfl (op_eqD hr.units)) (pe_lc (own := [("k", 3)]) (g := (gName 3)) rfl sc.nd (pi_range2 rfl b_range (pa_cons pe_int (pa_cons (pe_callB (callk (K := K) rLenA rfl call_len_seq) (by rfl) b_len PySem.boot_len (pa_cons (pv 0) pa_nil)) pa_nil))) (blkOk_by (N := ["value", "many", "one", "k"]) (sc := defScope s__law_is_lot) (by decide +kernel)) (fun _ _ _ _ _ => (pg_name (i := 3) sc.nd rfl (by first | exact Or.inl rfl | exact Or.inr rfl))) (fun _ _ _ _ _ => (pts_one (pt_cmpR op_le (pe_ix (ixk (K := K) rIx rfl ix_seq) (pv 0) (pv 3) (fun _ _ => rfl)) (pe_ix (ixk (K := K) rIx rfl ix_seq) (pv 0) (pe_op op_sub (pv 3) pe_int) (fun _ _ => rfl)) (nomark _)))) (fun _ _ _ _ _ => (pv 3))) (pe_lst pa_nil) (nomark _))))), ?_⟩
  exact (ss_seq (ss_if (st_or (st_not (st_eB (se_isi isi_tuple se_v))) (st_e (se_2 (r2_flat f2_ne) (SemN.e (sn_lc (own := [2]) (si_any se_v) sg_n (st_or (st_not (st_eB (se_callP (sa_cons se_v sa_nil)))) (st_not (st_e (se_chain (r2_flat f2_le) (r2_flat f2_lt) se_int se_v se_v)))) se_v (by decide))) (SemN.e (sn_lst sa_nil)))))
      (ss_ret se_bl)
      ss_nx)
      (ss_ret (se_2 (r2_flat f2_eq) (SemN.e (sn_lc (own := [3]) (si_r2 se_int (se_cb1 (b1 f1_len) se_v)) sg_n (st_e (se_2 (r2_flat f2_le) (se_2 r2_ix se_v se_v) (se_2 r2_ix se_v (se_2 (r2_flat f2_sub) se_v se_int)))) se_v (by decide))) (SemN.e (sn_lst sa_nil)))))
end
end Fw
/-! ## Ok_law_ring_starts -/
set_option Elab.async false
set_option linter.all false
set_option maxRecDepth 100000
set_option maxHeartbeats 4000000
namespace Fw
open PySem PySem.Spec PyProof.Rows L2
section
variable {P : Program} {w : World} {K : PySem.W.Frag} {mg : Str → Option Value} {base : Heap}
/-! ### _law_ring_starts -/
abbrev s__law_ring_starts : Stmt := topS 30
theorem sc__law_ring_starts : FnScope ["frame", "turning", "ring", "tails", "heads", "road"] ["frame", "turning", "ring"] (defScope s__law_ring_starts) := ⟨rfl, rfl, rfl, by decide +kernel, rfl, by decide +kernel, by decide +kernel⟩
theorem ok__law_ring_starts {f : Addr} {fd : FuncData} (F : Fun K "_law_ring_starts" "_law_ring_starts" s__law_ring_starts f fd) : FnG P w K mg base CX0 1 f fd ["frame", "turning", "ring"] (spP K m_law_ring_starts) := by
  have sc := sc__law_ring_starts
  refine fn_p F sc (by decide) (fun cdv A outer s H E hr => ?_)
  refine ⟨_, (pss_cons (ps_setLc (i := 3) (own := [("road", 5)]) (g := (gName 5)) rfl sc.nd rfl rfl (sw_true rfl rfl rfl (by decide +kernel)) (pi_anyK (K := K) rfl (pv 2)) (blkOk_by (N := ["frame", "turning", "ring", "tails", "heads", "road"]) (sc := defScope s__law_ring_starts) (by decide +kernel)) (fun _ _ _ _ _ => (pg_name (i := 5) sc.nd rfl (by first | exact Or.inl rfl | exact Or.inr rfl))) (fun _ _ _ _ _ => pts_nil) (fun _ _ _ _ _ => (pe_ix (ixk (K := K) rIx rfl ix_seq) (pe_ix (ixk (K := K) rIx rfl ix_seq) (pe_ix (ixk (K := K) rIx rfl ix_seq) (pv 0) pe_int (fun _ _ => rfl)) (pv 5) (fun _ _ => rfl)) (pe_ix (ixk (K := K) rIx rfl ix_seq) (pv 1) (pv 5) (fun _ _ => rfl)) (fun _ _ => rfl))))
      (pss_cons (ps_setLc (i := 4) (own := [("road", 5)]) (g := (gName 5)) rfl sc.nd rfl rfl (sw_true rfl rfl rfl (by decide +kernel)) (pi_anyK (K := K) rfl (pv 2)) (blkOk_by (N := ["frame", "turning", "ring", "tails", "heads", "road"]) (sc := defScope s__law_ring_starts) (by decide +kernel)) (fun _ _ _ _ _ => (pg_name (i := 5) sc.nd rfl (by first | exact Or.inl rfl | exact Or.inr rfl))) (fun _ _ _ _ _ => pts_nil) (fun _ _ _ _ _ => (pe_ix (ixk (K := K) rIx rfl ix_seq) (pe_ix (ixk (K := K) rIx rfl ix_seq) (pe_ix (ixk (K := K) rIx rfl ix_seq) (pv 0) pe_int (fun _ _ => rfl)) (pv 5) (fun _ _ => rfl)) (pe_op op_sub pe_int (pe_ix (ixk (K := K) rIx rfl ix_seq) (pv 1) (pv 5) (fun _ _ => rfl))) (fun _ _ => rfl))))
      (pss_one (ps_ret (pe_ifExp (PW.pt (pw_and (pt_cmpR (opk (K := K) rNeD rfl (op_neD hr.units)) (pv 2) (pe_tup pa_nil) (nomark _)) (pw_and1 (pt_cmpR (opk (K := K) rEqD rfl (op_eqD hr.units)) (pv 4) (pe_op (opk (K := K) rAddA rfl op_addA) (pe_slice (slk (K := K) rSlLT rfl sl_any) (pv 3) (po_some pe_int) po_none) (pe_slice (slk (K := K) rSlLT rfl sl_any) (pv 3) po_none (po_some pe_int))) (nomark _))))) (pv 3) pe_non))))), ?_⟩
  exact (ss_seq (ss_asg (SemN.e (sn_lc (own := [5]) (si_any se_v) sg_n st_yes (se_2 r2_ix (se_2 r2_ix (se_2 r2_ix se_v se_int) se_v) (se_2 r2_ix se_v se_v)) (by decide))) sg_n)
      (ss_seq (ss_asg (SemN.e (sn_lc (own := [5]) (si_any se_v) sg_n st_yes (se_2 r2_ix (se_2 r2_ix (se_2 r2_ix se_v se_int) se_v) (se_2 (r2_flat f2_sub) se_int (se_2 r2_ix se_v se_v))) (by decide))) sg_n)
      (ss_ret (se_if (st_and (st_e (se_2 (r2_flat f2_ne) se_v (se_tup sa_nil))) (st_e (se_2 (r2_flat f2_eq) se_v (se_2 r2_add (se_cut rs_cut se_v (so_some se_int) so_none) (se_cut rs_cut se_v so_none (so_some se_int)))))) se_v se_non))))
end
end Fw
/-! ## Ok_law_is_turning_ring -/
set_option Elab.async false
set_option linter.all false
set_option maxRecDepth 100000
set_option maxHeartbeats 4000000
namespace Fw
open PySem PySem.Spec PyProof.Rows L2
section
variable {P : Program} {w : World} {K : PySem.W.Frag} {mg : Str → Option Value} {base : Heap}
/-! ### _law_is_turning_ring -/
abbrev s__law_is_turning_ring : Stmt := topS 31
theorem sc__law_is_turning_ring : FnScope ["frame", "turning", "value", "starts", "one", "c"] ["frame", "turning", "value"] (defScope s__law_is_turning_ring) := ⟨rfl, rfl, rfl, by decide +kernel, rfl, by decide +kernel, by decide +kernel⟩
theorem ok__law_is_turning_ring {f : Addr} {fd : FuncData} (F : Fun K "_law_is_turning_ring" "_law_is_turning_ring" s__law_is_turning_ring f fd) (c__law_is_int : Callee P w K mg base 1 "_law_is_int" ["value"] (spP K m_law_is_int)) (c__law_ring_starts : Callee P w K mg base 1 "_law_ring_starts" ["frame", "turning", "ring"] (spP K m_law_ring_starts)) (b_dict : mg "dict" = none) (b_isinstance : mg "isinstance" = none) (b_len : mg "len" = none) (b_max : mg "max" = none) (b_min : mg "min" = none) (b_tuple : mg "tuple" = none) : FnG P w K mg base CX0 2 f fd ["frame", "turning", "value"] (spP K m_law_is_turning_ring) := by
  obtain ⟨f__law_is_int, fd__law_is_int, mg__law_is_int, kp__law_is_int, b__law_is_int, g__law_is_int⟩ := c__law_is_int
  obtain ⟨f__law_ring_starts, fd__law_ring_starts, mg__law_ring_starts, kp__law_ring_starts, b__law_ring_starts, g__law_ring_starts⟩ := c__law_ring_starts
  have sc := sc__law_is_turning_ring
  refine fn_p F sc (by decide) (fun cdv A outer s H E hr => ?_)
  refine ⟨_, (pss_cons (ps_if (PW.pt (pw_or (pt_not (pt_val (pe_callB (callk (K := K) rIsi rfl call_isi) (by rfl) b_isinstance (by decide +kernel) (pa_cons (pv 2) (pa_cons (pe_bltn (by rfl) b_tuple (by decide +kernel) (v := .ty "tuple") rfl) pa_nil))))) (pw_or1 (pt_cmpR (opk (K := K) rNeD rfl (op_neD hr.units)) (pe_lc (own := [("one", 4)]) (g := (gName 4)) rfl sc.nd (pi_anyK (K := K) rfl (pv 2)) (blkOk_by (N := ["frame", "turning", "value", "starts", "one", "c"]) (sc := defScope s__law_is_turning_ring) (by decide +kernel)) (fun _ _ _ _ _ => (pg_name (i := 4) sc.nd rfl (by first | exact Or.inl rfl | exact Or.inr rfl))) (fun _ _ _ _ _ => (pts_one (pt_not (pt_val (pe_callG g__law_is_int (hr.mono (by decide)) (by rfl) mg__law_is_int kp__law_is_int b__law_is_int .nil pass0 (pa_cons (pv 4) pa_nil)))))) (fun _ _ _ _ _ => (pv 4))) (pe_lst pa_nil) (nomark _)))))
      (pss_one (ps_ret pe_bl))
      pss_nil)
      (pss_cons (ps_if (PW.pt (pw_or (pt_cmpR (opk (K := K) rEqD rfl (op_eqD hr.units)) (pv 2) (pe_tup pa_nil) (nomark _)) (pw_or (pt_cmpR op_lt (pe_callB (callk (K := K) rMinA rfl (cr_minA rfl)) (by rfl) b_min (by decide +kernel) (pa_cons (pv 2) pa_nil)) pe_int (nomark _)) (pw_or (pt_cmpR op_ge (pe_callB (callk (K := K) rMaxA rfl (cr_maxA rfl)) (by rfl) b_max (by decide +kernel) (pa_cons (pv 2) pa_nil)) (pe_callB (callk (K := K) rLenA rfl call_len_seq) (by rfl) b_len PySem.boot_len (pa_cons (pe_ix (ixk (K := K) rIx rfl ix_seq) (pv 0) pe_int (fun _ _ => rfl)) pa_nil)) (nomark _)) (pw_or1 (pt_cmpR (opk (K := K) rNeD rfl (op_neD hr.units)) (pe_callB (callk (K := K) rMinA rfl (cr_minA rfl)) (by rfl) b_min (by decide +kernel) (pa_cons (pv 2) pa_nil)) (pe_ix (ixk (K := K) rIx rfl ix_seq) (pv 2) pe_int (fun _ _ => rfl)) (nomark _)))))))
      (pss_one (ps_ret pe_bl))
      pss_nil)
      (pss_cons (ps_set (i := 3) sc.nd rfl (by first | exact Or.inl rfl | exact Or.inr rfl) (pe_callG g__law_ring_starts (hr.mono (by decide)) (by rfl) mg__law_ring_starts kp__law_ring_starts b__law_ring_starts .nil pass0 (pa_cons (pv 0) (pa_cons (pv 1) (pa_cons (pv 2) pa_nil)))))
      (pss_one (ps_ret (pe_and (pe_cmp (pc_notN (pv 3))) (pe_one (pe_cmpR (opk (K := K) rEqD rfl (op_eqD hr.units)) (pe_callB call_lenD (by rfl) b_len PySem.boot_len (pa_cons (pe_callTy (callk (K := K) rDictP rfl (call_dictP rfl)) (by rfl) b_dict (by decide +kernel) (pa_cons (pe_lc (own := [("c", 5)]) (g := (gName 5)) rfl sc.nd (pi_anyK (K := K) rfl (pv 3)) (blkOk_by (N := ["frame", "turning", "value", "starts", "one", "c"]) (sc := defScope s__law_is_turning_ring) (by decide +kernel)) (fun _ _ _ _ _ => (pg_name (i := 5) sc.nd rfl (by first | exact Or.inl rfl | exact Or.inr rfl))) (fun _ _ _ _ _ => pts_nil) (fun _ _ _ _ _ => (pe_tup (pa_cons (pv 5) (pa_cons pe_int pa_nil))))) pa_nil)) pa_nil)) (pe_callB (callk (K := K) rLenA rfl call_len_seq) (by rfl) b_len PySem.boot_len (pa_cons (pv 3) pa_nil)) (nomark _))))))))), ?_⟩
  exact (ss_seq (ss_if (st_or (st_not (st_eB (se_isi isi_tuple se_v))) (st_e (se_2 (r2_flat f2_ne) (SemN.e (sn_lc (own := [4]) (si_any se_v) sg_n (st_not (st_eB (se_callP (sa_cons se_v sa_nil)))) se_v (by decide))) (SemN.e (sn_lst sa_nil)))))
      (ss_ret se_bl)
      ss_nx)
      (ss_seq (ss_if (st_or (st_e (se_2 (r2_flat f2_eq) se_v (se_tup sa_nil))) (st_or (st_e (se_2 (r2_flat f2_lt) (se_cb1 (b1 f1_min) se_v) se_int)) (st_or (st_e (se_2 (r2_flat f2_ge) (se_cb1 (b1 f1_max) se_v) (se_cb1 (b1 f1_len) (se_2 r2_ix se_v se_int)))) (st_e (se_2 (r2_flat f2_ne) (se_cb1 (b1 f1_min) se_v) (se_2 r2_ix se_v se_int))))))
      (ss_ret se_bl)
      ss_nx)
      (ss_seq (ss_asg (se_callP (sa_cons se_v (sa_cons se_v (sa_cons se_v sa_nil)))) sg_n)
      (ss_ret (se_and (se_notN se_v) (se_2 (r2_flat f2_eq) (se_cb1 (b1 f1_lenK) (SemND.e (snd_b1 bnd_dictP (SemN.e (sn_lc (own := [5]) (si_any se_v) sg_n st_yes (se_tup (sa_cons se_v (sa_cons se_int sa_nil))) (by decide)))))) (se_cb1 (b1 f1_len) se_v)))))))
end
end Fw
/-! ## Ok_law_fault -/
set_option Elab.async false
set_option linter.all false
set_option maxRecDepth 100000
set_option maxHeartbeats 4000000
namespace Fw
open PySem PySem.Spec PyProof.Rows L2
section
variable {P : Program} {w : World} {K : PySem.W.Frag} {mg : Str → Option Value} {base : Heap}
/-! ### _law_fault -/
abbrev s__law_fault : Stmt := topS 32
theorem sc__law_fault : FnScope ["frame", "turning", "road", "value", "outs", "pair", "mark", "c"] ["frame", "turning", "road", "value"] (defScope s__law_fault) := ⟨rfl, rfl, rfl, by decide +kernel, rfl, by decide +kernel, by decide +kernel⟩
theorem ok__law_fault {f : Addr} {fd : FuncData} (F : Fun K "_law_fault" "_law_fault" s__law_fault f fd) (c__law_is_lot : Callee P w K mg base 2 "_law_is_lot" ["value", "many"] (spP K m_law_is_lot)) (c__law_is_turning_ring : Callee P w K mg base 2 "_law_is_turning_ring" ["frame", "turning", "value"] (spP K m_law_is_turning_ring)) (c__law_outs : Callee P w K mg base 1 "_law_outs" ["frame", "turning"] (spP K m_law_outs)) (c__law_within : Callee P w K mg base 1 "_law_within" ["frame", "lot"] (spP K m_law_within)) (b_isinstance : mg "isinstance" = none) (b_len : mg "len" = none) (b_repr : mg "repr" = none) (b_sum : mg "sum" = none) (b_tuple : mg "tuple" = none) : FnG P w K mg base CX0 3 f fd ["frame", "turning", "road", "value"] (spP K m_law_fault) := by
  obtain ⟨f__law_is_lot, fd__law_is_lot, mg__law_is_lot, kp__law_is_lot, b__law_is_lot, g__law_is_lot⟩ := c__law_is_lot
  obtain ⟨f__law_is_turning_ring, fd__law_is_turning_ring, mg__law_is_turning_ring, kp__law_is_turning_ring, b__law_is_turning_ring, g__law_is_turning_ring⟩ := c__law_is_turning_ring
  obtain ⟨f__law_outs, fd__law_outs, mg__law_outs, kp__law_outs, b__law_outs, g__law_outs⟩ := c__law_outs
  obtain ⟨f__law_within, fd__law_within, mg__law_within, kp__law_within, b__law_within, g__law_within⟩ := c__law_within
  have sc := sc__law_fault
  refine fn_p F sc (by decide) (fun cdv A outer s H E hr => ?_)
  refine ⟨_, (pss_cons (ps_if (PW.pt (pw_or (pt_not (pt_val (pe_callB (callk (K := K) rIsi rfl call_isi) (by rfl) b_isinstance (by decide +kernel) (pa_cons (pv 3) (pa_cons (pe_bltn (by rfl) b_tuple (by decide +kernel) (v := .ty "tuple") rfl) pa_nil))))) (pw_or (pt_cmpR (opk (K := K) rNeD rfl (op_neD hr.units)) (pe_callB (callk (K := K) rLenA rfl call_len_seq) (by rfl) b_len PySem.boot_len (pa_cons (pv 3) pa_nil)) pe_int (nomark _)) (pw_or1 (pt_cmpR (opk (K := K) rNotInA rfl (op_notInA (room65 hr))) (pe_callB (callk (K := K) rReprA rfl (call_reprA hr)) (by rfl) b_repr (by decide +kernel) (pa_cons (pe_ix (ixk (K := K) rIx rfl ix_seq) (pv 3) pe_int (fun _ _ => rfl)) pa_nil)) (pe_tup (pa_cons (pe_callB (callk (K := K) rReprA rfl (call_reprA hr)) (by rfl) b_repr (by decide +kernel) (pa_cons pe_str pa_nil)) (pa_cons (pe_callB (callk (K := K) rReprA rfl (call_reprA hr)) (by rfl) b_repr (by decide +kernel) (pa_cons pe_str pa_nil)) pa_nil))) (by with_unfolding_all rfl))))))
      (pss_one (ps_ret (pe_tup (pa_cons pe_str pa_nil))))
      pss_nil)
      (pss_cons (ps_if (pt_cmpR (opk (K := K) rEqD rfl (op_eqD hr.units)) (pe_ix (ixk (K := K) rIx rfl ix_seq) (pv 3) pe_int (fun _ _ => rfl)) pe_str (nomark _))
      (pss_cons (ps_if (pt_not (pt_val (pe_callG g__law_is_turning_ring (hr.mono (by decide)) (by rfl) mg__law_is_turning_ring kp__law_is_turning_ring b__law_is_turning_ring .nil pass0 (pa_cons (pv 0) (pa_cons (pv 1) (pa_cons (pe_ix (ixk (K := K) rIx rfl ix_seq) (pv 3) pe_int (fun _ _ => rfl)) pa_nil))))))
      (pss_one (ps_ret (pe_tup (pa_cons pe_str pa_nil))))
      pss_nil)
      (pss_one (ps_ret (pe_ifExp (pt_cmpR (opk (K := K) rNotInA rfl (op_notInA (room65 hr))) (pv 2) (pe_ix (ixk (K := K) rIx rfl ix_seq) (pv 3) pe_int (fun _ _ => rfl)) (by with_unfolding_all rfl)) (pe_tup (pa_cons pe_str pa_nil)) pe_non))))
      pss_nil)
      (pss_cons (ps_if (pt_not (pt_val (pe_callG g__law_is_lot (hr.mono (by decide)) (by rfl) mg__law_is_lot kp__law_is_lot b__law_is_lot .nil pass0 (pa_cons (pe_ix (ixk (K := K) rIx rfl ix_seq) (pv 3) pe_int (fun _ _ => rfl)) (pa_cons (pe_ix (ixk (K := K) rIx rfl ix_seq) (pv 0) pe_int (fun _ _ => rfl)) pa_nil)))))
      (pss_one (ps_ret (pe_tup (pa_cons pe_str pa_nil))))
      pss_nil)
      (pss_cons (ps_asg (g := L2.gTup K 3 (gNames [4, 5, 6])) (pe_tup (pa_cons (pe_callG g__law_outs (hr.mono (by decide)) (by rfl) mg__law_outs kp__law_outs b__law_outs .nil pass0 (pa_cons (pv 0) (pa_cons (pv 1) pa_nil))) (pa_cons (pe_ix (ixk (K := K) rIx rfl ix_seq) (pe_ix (ixk (K := K) rIx rfl ix_seq) (pv 0) pe_int (fun _ _ => rfl)) (pv 2) (fun _ _ => rfl)) (pa_cons (pe_ix (ixk (K := K) rIx rfl ix_seq) (pv 1) (pv 2) (fun _ _ => rfl)) pa_nil)))) (pg_tup rfl (pgs_cons (pg_name (i := 4) sc.nd rfl (by first | exact Or.inl rfl | exact Or.inr rfl)) (pgs_cons (pg_name (i := 5) sc.nd rfl (by first | exact Or.inl rfl | exact Or.inr rfl)) (pgs_cons (pg_name (i := 6) sc.nd rfl (by first | exact Or.inl rfl | exact Or.inr rfl)) pgs_nil)))))
      (pss_cons (ps_if (pt_cmpR (opk (K := K) rNeD rfl (op_neD hr.units)) (pe_callG g__law_within (hr.mono (by decide)) (by rfl) mg__law_within kp__law_within b__law_within .nil pass0 (pa_cons (pv 0) (pa_cons (pe_ix (ixk (K := K) rIx rfl ix_seq) (pv 3) pe_int (fun _ _ => rfl)) pa_nil))) (pe_callB (callk (K := K) rSum rfl (cr_sum rfl)) (by rfl) b_sum (by decide +kernel) (pa_cons (pe_lc (own := [("c", 7)]) (g := (gName 7)) rfl sc.nd (pi_anyK (K := K) rfl (pe_ix (ixk (K := K) rIx rfl ix_seq) (pv 3) pe_int (fun _ _ => rfl))) (blkOk_by (N := ["frame", "turning", "road", "value", "outs", "pair", "mark", "c"]) (sc := defScope s__law_fault) (by decide +kernel)) (fun _ _ _ _ _ => (pg_name (i := 7) sc.nd rfl (by first | exact Or.inl rfl | exact Or.inr rfl))) (fun _ _ _ _ _ => pts_nil) (fun _ _ _ _ _ => (pe_ix (ixk (K := K) rIx rfl ix_seq) (pv 4) (pv 7) (fun _ _ => rfl)))) pa_nil)) (nomark _))
      (pss_one (ps_ret (pe_tup (pa_cons pe_str pa_nil))))
      pss_nil)
      (pss_one (ps_ret (pe_ifExp (PW.pt (pw_and (pt_cmpR (opk (K := K) rInA rfl (op_inA (room65 hr))) (pe_ix (ixk (K := K) rIx rfl ix_seq) (pv 5) (pe_op op_sub pe_int (pv 6)) (fun _ _ => rfl)) (pe_ix (ixk (K := K) rIx rfl ix_seq) (pv 3) pe_int (fun _ _ => rfl)) (by with_unfolding_all rfl)) (pw_and1 (pt_cmpR (opk (K := K) rNotInA rfl (op_notInA (room65 hr))) (pe_ix (ixk (K := K) rIx rfl ix_seq) (pv 5) (pv 6) (fun _ _ => rfl)) (pe_ix (ixk (K := K) rIx rfl ix_seq) (pv 3) pe_int (fun _ _ => rfl)) (by with_unfolding_all rfl))))) pe_non (pe_tup (pa_cons pe_str pa_nil)))))))))), ?_⟩
  exact (ss_seq (ss_if (st_or (st_not (st_eB (se_isi isi_tuple se_v))) (st_or (st_e (se_2 (r2_flat f2_ne) (se_cb1 (b1 f1_len) se_v) se_int)) (st_e (se_2 (r2_flat f2_notIn) (se_cb1 (b1 f1_repr) (se_2 r2_ix se_v se_int)) (se_tup (sa_cons (se_cb1 (b1 f1_repr) se_str) (sa_cons (se_cb1 (b1 f1_repr) se_str) sa_nil)))))))
      (ss_ret (se_tup (sa_cons se_str sa_nil)))
      ss_nx)
      (ss_seq (ss_if (st_e (se_2 (r2_flat f2_eq) (se_2 r2_ix se_v se_int) se_str))
      (ss_seq (ss_if (st_not (st_eB (se_callP (sa_cons se_v (sa_cons se_v (sa_cons (se_2 r2_ix se_v se_int) sa_nil))))))
      (ss_ret (se_tup (sa_cons se_str sa_nil)))
      ss_nx)
      (ss_ret (se_if (st_e (se_2 (r2_flat f2_notIn) se_v (se_2 r2_ix se_v se_int))) (se_tup (sa_cons se_str sa_nil)) se_non)))
      ss_nx)
      (ss_seq (ss_if (st_not (st_eB (se_callP (sa_cons (se_2 r2_ix se_v se_int) (sa_cons (se_2 r2_ix se_v se_int) sa_nil)))))
      (ss_ret (se_tup (sa_cons se_str sa_nil)))
      ss_nx)
      (ss_seq (ss_unp (is := [4, 5, 6]) (sp_e (se_callP (sa_cons se_v (sa_cons se_v sa_nil))) (sp_e (se_2 r2_ix (se_2 r2_ix se_v se_int) se_v) (sp_e (se_2 r2_ix se_v se_v) sp_nil))) rfl (by decide) (by decide))
      (ss_seq (ss_if (st_e (se_2 (r2_flat f2_ne) (se_callP (sa_cons se_v (sa_cons (se_2 r2_ix se_v se_int) sa_nil))) (se_cb1 (b1 f1_sum) (SemN.e (sn_lc (own := [7]) (si_any (se_2 r2_ix se_v se_int)) sg_n st_yes (se_2 r2_ix se_v se_v) (by decide))))))
      (ss_ret (se_tup (sa_cons se_str sa_nil)))
      ss_nx)
      (ss_ret (se_if (st_and (st_e (se_2 (r2_flat f2_in) (se_2 r2_ix se_v (se_2 (r2_flat f2_sub) se_int se_v)) (se_2 r2_ix se_v se_int))) (st_e (se_2 (r2_flat f2_notIn) (se_2 r2_ix se_v se_v) (se_2 r2_ix se_v se_int)))) se_non (se_tup (sa_cons se_str sa_nil)))))))))
end
end Fw
/-! ## Ok_law_values -/
set_option Elab.async false
set_option linter.all false
set_option maxRecDepth 100000
set_option maxHeartbeats 4000000
namespace Fw
open PySem PySem.Spec PyProof.Rows L2
section
variable {P : Program} {w : World} {K : PySem.W.Frag} {mg : Str → Option Value} {base : Heap}
/-! ### _law_values -/
abbrev s__law_values : Stmt := topS 33
theorem sc__law_values : FnScope ["source", "frame", "turning", "told", "n", "late", "lot", "k", "odd", "led", "some"] ["source", "frame", "turning", "told"] (defScope s__law_values) := ⟨rfl, rfl, rfl, by decide +kernel, rfl, by decide +kernel, by decide +kernel⟩
theorem ok__law_values {f : Addr} {fd : FuncData} (F : Fun K "_law_values" "_law_values" s__law_values f fd) (c__law_all_lots : Callee P w K mg base 1 "_law_all_lots" ["n"] (spP K m_law_all_lots)) (c__law_led : Callee P w K mg base 1 "_law_led" ["frame", "turning", "crossing"] (spP K m_law_led)) (c__law_of : Callee P w K mg base 2 "_law_of" ["source", "some"] (spS K m_law_of)) (c__law_pick : Callee P w K mg base 1 "_law_pick" ["source", "many"] (spPick K)) (b_len : mg "len" = none) (b_list : mg "list" = none) (b_range : mg "range" = none) (b_tuple : mg "tuple" = none) : FnG P w K mg base CX0 3 f fd ["source", "frame", "turning", "told"] (spS K m_law_values) := by
  obtain ⟨f__law_all_lots, fd__law_all_lots, mg__law_all_lots, kp__law_all_lots, b__law_all_lots, g__law_all_lots⟩ := c__law_all_lots
  obtain ⟨f__law_led, fd__law_led, mg__law_led, kp__law_led, b__law_led, g__law_led⟩ := c__law_led
  obtain ⟨f__law_of, fd__law_of, mg__law_of, kp__law_of, b__law_of, g__law_of⟩ := c__law_of
  obtain ⟨f__law_pick, fd__law_pick, mg__law_pick, kp__law_pick, b__law_pick, g__law_pick⟩ := c__law_pick
  have sc := sc__law_values
  refine fn_f srcW (fun _ _ => m_law_valuesB) F sc (by decide) (fun cdv A outer s H E hr => ?_)
  refine ⟨_, (pss_cons (ps_par (i := 4) (j := 5) rfl sc.nd rfl rfl (by decide) rfl rfl (pa_cons (pe_ix (ixk (K := K) rIx rfl ix_seq) (pv 1) pe_int (fun _ _ => rfl)) (pa_cons (pe_ix (ixk (K := K) rIx rfl ix_seq) (pv 3) pe_int (fun _ _ => rfl)) pa_nil)) (by first | rfl | (with_unfolding_all rfl) | (decide +kernel)))
      (pss_cons (ps_par (i := 6) (j := 7) rfl sc.nd rfl rfl (by decide) rfl rfl (pa_cons (pe_callG g__law_of (hr.mono (by decide)) (by rfl) mg__law_of kp__law_of b__law_of .nil pass0 (pa_cons (pv 0) (pa_cons (pe_callG g__law_all_lots (hr.mono (by decide)) (by rfl) mg__law_all_lots kp__law_all_lots b__law_all_lots .nil pass0 (pa_cons (pv 4) pa_nil)) pa_nil))) (pa_cons (pe_callG g__law_pick (hr.mono (by decide)) (by rfl) mg__law_pick kp__law_pick b__law_pick .nil pass0 (pa_cons (pv 0) (pa_cons (pe_op (opk (K := K) rAddA rfl op_addA) (pe_callB (callk (K := K) rLenA rfl call_len_seq) (by rfl) b_len PySem.boot_len (pa_cons (pv 5) pa_nil)) pe_int) pa_nil))) pa_nil)) (by first | rfl | (with_unfolding_all rfl) | (decide +kernel)))
      (pss_cons (ps_set (i := 8) sc.nd rfl (by first | exact Or.inl rfl | exact Or.inr rfl) (pe_callG g__law_of (hr.mono (by decide)) (by rfl) mg__law_of kp__law_of b__law_of .nil pass0 (pa_cons (pv 0) (pa_cons (pe_lst (pa_cons pe_non (pa_cons pe_bl (pa_cons (pe_un un_neg pe_int) (pa_cons (pv 4) (pa_cons pe_str (pa_cons (pe_tup (pa_cons pe_int pa_nil)) (pa_cons pe_int (pa_cons (pe_op op_pow pe_int pe_int) (pa_cons (pe_callB (callk (K := K) rLenA rfl call_len_seq) (by rfl) b_len PySem.boot_len (pa_cons (pe_ix (ixk (K := K) rIx rfl ix_seq) (pv 1) pe_int (fun _ _ => rfl)) pa_nil)) pa_nil)))))))))) pa_nil))))
      (pss_cons (ps_set (i := 9) sc.nd rfl (by first | exact Or.inl rfl | exact Or.inr rfl) (pe_callTy (callk (K := K) rTupleA rfl call_tuple_of) (by rfl) b_tuple (by decide +kernel) (pa_cons (pe_callG g__law_led (hr.mono (by decide)) (by rfl) mg__law_led kp__law_led b__law_led .nil pass0 (pa_cons (pv 1) (pa_cons (pv 2) (pa_cons (pe_callG g__law_pick (hr.mono (by decide)) (by rfl) mg__law_pick kp__law_pick b__law_pick .nil pass0 (pa_cons (pv 0) (pa_cons (pv 4) pa_nil))) pa_nil)))) pa_nil)))
      (pss_cons (ps_set (i := 10) sc.nd rfl (by first | exact Or.inl rfl | exact Or.inr rfl) (pe_lst (pa_cons (pv 3) (pa_cons (pe_tup (pa_cons (pe_ix (ixk (K := K) rIx rfl ix_seq) (pv 3) pe_int (fun _ _ => rfl)) (pa_cons (pe_op (opk (K := K) rAddA rfl op_addA) (pe_op (opk (K := K) rAddA rfl op_addA) (pe_slice (slk (K := K) rSlLT rfl sl_any) (pv 5) po_none (po_some (pv 7))) (pe_tup (pa_cons (pv 8) pa_nil))) (pe_slice (slk (K := K) rSlLT rfl sl_any) (pv 5) (po_some (pv 7)) po_none)) pa_nil))) (pa_cons (pe_tup (pa_cons (pe_ix (ixk (K := K) rIx rfl ix_seq) (pv 3) pe_int (fun _ _ => rfl)) (pa_cons (pe_op (opk (K := K) rAddA rfl op_addA) (pe_op (opk (K := K) rAddA rfl op_addA) (pe_slice (slk (K := K) rSlLT rfl sl_any) (pv 5) po_none (po_some (pv 7))) (pe_tup (pa_cons (pv 8) pa_nil))) (pe_slice (slk (K := K) rSlLT rfl sl_any) (pv 5) (po_some (pe_op (opk (K := K) rAddA rfl op_addA) (pv 7) pe_int)) po_none)) pa_nil))) (pa_cons (pe_callTy (callk (K := K) rListA rfl call_list_of) (by rfl) b_list (by decide +kernel) (pa_cons (pv 3) pa_nil)) pa_nil))))))
      (pss_cons (ps_set (i := 10) sc.nd rfl (by first | exact Or.inl rfl | exact Or.inr rfl) (pe_op (opk (K := K) rAddA rfl op_addA) (pv 10) (pe_lst (pa_cons (pe_tup (pa_cons (pe_ix (ixk (K := K) rIx rfl ix_seq) (pv 3) pe_int (fun _ _ => rfl)) (pa_cons (pe_revK (K := K) rfl (pv 5)) pa_nil))) (pa_cons (pe_tup (pa_cons (pe_ix (ixk (K := K) rIx rfl ix_seq) (pv 3) pe_int (fun _ _ => rfl)) (pa_cons (pe_slice (slk (K := K) rSlLT rfl sl_any) (pv 5) (po_some pe_int) po_none) pa_nil))) (pa_cons (pe_tup (pa_cons (pe_ix (ixk (K := K) rIx rfl ix_seq) (pv 3) pe_int (fun _ _ => rfl)) (pa_cons (pe_callTy (callk (K := K) rListA rfl call_list_of) (by rfl) b_list (by decide +kernel) (pa_cons (pv 5) pa_nil)) pa_nil))) (pa_cons (pe_tup (pa_cons (pe_ix (ixk (K := K) rIx rfl ix_seq) (pv 3) pe_int (fun _ _ => rfl)) (pa_cons (pe_op (opk (K := K) rAddA rfl op_addA) (pe_slice (slk (K := K) rSlLT rfl sl_any) (pv 5) (po_some pe_int) po_none) (pe_slice (slk (K := K) rSlLT rfl sl_any) (pv 5) po_none (po_some pe_int))) pa_nil))) pa_nil)))))))
      (pss_cons (ps_set (i := 10) sc.nd rfl (by first | exact Or.inl rfl | exact Or.inr rfl) (pe_op (opk (K := K) rAddA rfl op_addA) (pv 10) (pe_lst (pa_cons (pe_tup (pa_cons pe_str (pa_cons (pv 6) pa_nil))) (pa_cons (pe_tup (pa_cons pe_str (pa_cons (pv 9) pa_nil))) (pa_cons (pe_tup (pa_cons pe_str (pa_cons (pv 5) pa_nil))) (pa_cons (pe_tup (pa_cons pe_str (pa_cons (pv 5) pa_nil))) (pa_cons (pe_tup (pa_cons pe_str (pa_cons (pe_tup pa_nil) pa_nil))) (pa_cons (pe_tup (pa_cons pe_str (pa_cons (pe_tup pa_nil) pa_nil))) pa_nil)))))))))
      (pss_cons (ps_set (i := 10) sc.nd rfl (by first | exact Or.inl rfl | exact Or.inr rfl) (pe_op (opk (K := K) rAddA rfl op_addA) (pv 10) (pe_lst (pa_cons (pe_tup (pa_cons (pv 5) (pa_cons (pe_ix (ixk (K := K) rIx rfl ix_seq) (pv 3) pe_int (fun _ _ => rfl)) pa_nil))) (pa_cons (pe_tup (pa_cons pe_str (pa_cons (pe_tupRg rfl (by rfl) b_tuple (prg_1 (by rfl) b_range (pv 4))) pa_nil))) (pa_cons (pe_tup (pa_cons pe_str (pa_cons (pv 5) pa_nil))) (pa_cons (pe_op (opk (K := K) rAddA rfl op_addA) (pv 3) (pe_tup (pa_cons pe_int pa_nil))) (pa_cons (pe_slice (slk (K := K) rSlLT rfl sl_any) (pv 3) po_none (po_some pe_int)) pa_nil))))))))
      (pss_one (ps_ret (pe_op (opk (K := K) rAddA rfl op_addA) (pv 10) (pe_lst (pa_cons pe_non (pa_cons (pe_tup pa_nil) (pa_cons pe_int (pa_cons pe_str (pa_cons pe_dnewK pa_nil))))))))))))))))), ?_⟩
  exact fun a c => (ss_seq (ss_par2 (sp_e (se_2 r2_ix se_v se_int) (sp_e (se_2 r2_ix se_v se_int) sp_nil)) (by decide))
      (ss_seq (ss_par2 (sp_e (se_callS (sa_cons se_v (sa_cons (se_callP (sa_cons se_v sa_nil)) sa_nil))) (sp_e (se_callS (sa_cons se_v (sa_cons (se_2 r2_add (se_cb1 (b1 f1_len) se_v) se_int) sa_nil))) sp_nil)) (by decide))
      (ss_seq (ss_asg (se_callS (sa_cons se_v (sa_cons (SemN.e (sn_lst (sa_cons se_non (sa_cons se_bl (sa_cons (se_1 r1_neg se_int) (sa_cons se_v (sa_cons se_str (sa_cons (se_tup (sa_cons se_int sa_nil)) (sa_cons se_int (sa_cons (se_2 (r2_flat f2_pow) se_int se_int) (sa_cons (se_cb1 (b1 f1_len) (se_2 r2_ix se_v se_int)) sa_nil))))))))))) sa_nil))) sg_n)
      (ss_seq (ss_asg (se_cb1 Fw.b_tuple (se_callP (sa_cons se_v (sa_cons se_v (sa_cons (se_callS (sa_cons se_v (sa_cons se_v sa_nil))) sa_nil))))) sg_n)
      (ss_seq (ss_asg (SemN.e (sn_lst (sa_cons se_v (sa_cons (se_tup (sa_cons (se_2 r2_ix se_v se_int) (sa_cons (se_2 r2_add (se_2 r2_add (se_cut rs_cut se_v so_none (so_some se_v)) (se_tup (sa_cons se_v sa_nil))) (se_cut rs_cut se_v (so_some se_v) so_none)) sa_nil))) (sa_cons (se_tup (sa_cons (se_2 r2_ix se_v se_int) (sa_cons (se_2 r2_add (se_2 r2_add (se_cut rs_cut se_v so_none (so_some se_v)) (se_tup (sa_cons se_v sa_nil))) (se_cut rs_cut se_v (so_some (se_2 r2_add se_v se_int)) so_none)) sa_nil))) (sa_cons (SemN.e (sn_b1 bn_list se_v)) sa_nil)))))) sg_n)
      (ss_seq (ss_asg (se_2 r2_add se_v (SemN.e (sn_lst (sa_cons (se_tup (sa_cons (se_2 r2_ix se_v se_int) (sa_cons (se_rev se_v) sa_nil))) (sa_cons (se_tup (sa_cons (se_2 r2_ix se_v se_int) (sa_cons (se_cut rs_cut se_v (so_some se_int) so_none) sa_nil))) (sa_cons (se_tup (sa_cons (se_2 r2_ix se_v se_int) (sa_cons (SemN.e (sn_b1 bn_list se_v)) sa_nil))) (sa_cons (se_tup (sa_cons (se_2 r2_ix se_v se_int) (sa_cons (se_2 r2_add (se_cut rs_cut se_v (so_some se_int) so_none) (se_cut rs_cut se_v so_none (so_some se_int))) sa_nil))) sa_nil))))))) sg_n)
      (ss_seq (ss_asg (se_2 r2_add se_v (SemN.e (sn_lst (sa_cons (se_tup (sa_cons se_str (sa_cons se_v sa_nil))) (sa_cons (se_tup (sa_cons se_str (sa_cons se_v sa_nil))) (sa_cons (se_tup (sa_cons se_str (sa_cons se_v sa_nil))) (sa_cons (se_tup (sa_cons se_str (sa_cons se_v sa_nil))) (sa_cons (se_tup (sa_cons se_str (sa_cons (se_tup sa_nil) sa_nil))) (sa_cons (se_tup (sa_cons se_str (sa_cons (se_tup sa_nil) sa_nil))) sa_nil))))))))) sg_n)
      (ss_seq (ss_asg (se_2 r2_add se_v (SemN.e (sn_lst (sa_cons (se_tup (sa_cons se_v (sa_cons (se_2 r2_ix se_v se_int) sa_nil))) (sa_cons (se_tup (sa_cons se_str (sa_cons (se_tupR1 se_v) sa_nil))) (sa_cons (se_tup (sa_cons se_str (sa_cons se_v sa_nil))) (sa_cons (se_2 r2_add se_v (se_tup (sa_cons se_int sa_nil))) (sa_cons (se_cut rs_cut se_v so_none (so_some se_int)) sa_nil)))))))) sg_n)
      (ss_ret (se_2 r2_add se_v (SemN.e (sn_lst (sa_cons se_non (sa_cons (se_tup sa_nil) (sa_cons se_int (sa_cons se_str (sa_cons se_dnew sa_nil)))))))))))))))))
end
end Fw
/-! ## Oklaw -/
set_option Elab.async false
set_option linter.all false
set_option maxRecDepth 100000
set_option maxHeartbeats 4000000
namespace Fw
open PySem PySem.Spec PyProof.Rows L2
section
variable {P : Program} {w : World} {K : PySem.W.Frag} {mg : Str → Option Value} {base : Heap}
/-! ### law -/
abbrev s_law : Stmt := topS 34
theorem sc_law : FnScope ["script", "source", "lap", "frame", "kept", "turning", "road", "told", "pair", "tail", "head", "word", "value", "shown", "fault"] ["script"] (defScope s_law) := ⟨rfl, rfl, rfl, by decide +kernel, rfl, by decide +kernel, by decide +kernel⟩
theorem ok_law {f : Addr} {fd : FuncData} (F : Fun K "law" "law" s_law f fd) (c__law_source : Callee P w K mg base 1 "_law_source" ["script"] (spSource K)) (c__law_fault : Callee P w K mg base 3 "_law_fault" ["frame", "turning", "road", "value"] (spP K m_law_fault)) (c__law_frame : Callee P w K mg base 2 "_law_frame" ["source", "most", "roads"] (spS K m_law_frame)) (c__law_led : Callee P w K mg base 1 "_law_led" ["frame", "turning", "crossing"] (spP K m_law_led)) (c__law_mixed : Callee P w K mg base 2 "_law_mixed" ["source", "things"] (spS K m_law_mixed)) (c__law_turning : Callee P w K mg base 2 "_law_turning" ["source", "frame"] (spS K m_law_turning)) (c__law_values : Callee P w K mg base 3 "_law_values" ["source", "frame", "turning", "told"] (spS K m_law_values)) (c_judge_stiff : Callee P w K mg base 3 "judge_stiff" ["frame", "turning", "road", "value"] (spP K m_judge_stiff)) (c_stiff_paper : Callee P w K mg base 4 "stiff_paper" ["frame", "turning", "road"] (spP K m_stiff_paper)) (b_len : mg "len" = none) (b_list : mg "list" = none) (b_range : mg "range" = none) (b_repr : mg "repr" = none) (hm : ∀ (a : Addr) (ns : List Int), ns.length ≤ 63 → ∃ ρ' s', m_lawB (lawEnv 13 a) (src0 a ns) = some (.rt (.bl true), ρ', s')) : FnG P w K mg base CX0 5 f fd ["script"] (spLaw K) := by
  obtain ⟨f__law_source, fd__law_source, mg__law_source, kp__law_source, b__law_source, g__law_source⟩ := c__law_source
  obtain ⟨f__law_fault, fd__law_fault, mg__law_fault, kp__law_fault, b__law_fault, g__law_fault⟩ := c__law_fault
  obtain ⟨f__law_frame, fd__law_frame, mg__law_frame, kp__law_frame, b__law_frame, g__law_frame⟩ := c__law_frame
  obtain ⟨f__law_led, fd__law_led, mg__law_led, kp__law_led, b__law_led, g__law_led⟩ := c__law_led
  obtain ⟨f__law_mixed, fd__law_mixed, mg__law_mixed, kp__law_mixed, b__law_mixed, g__law_mixed⟩ := c__law_mixed
  obtain ⟨f__law_turning, fd__law_turning, mg__law_turning, kp__law_turning, b__law_turning, g__law_turning⟩ := c__law_turning
  obtain ⟨f__law_values, fd__law_values, mg__law_values, kp__law_values, b__law_values, g__law_values⟩ := c__law_values
  obtain ⟨f_judge_stiff, fd_judge_stiff, mg_judge_stiff, kp_judge_stiff, b_judge_stiff, g_judge_stiff⟩ := c_judge_stiff
  obtain ⟨f_stiff_paper, fd_stiff_paper, mg_stiff_paper, kp_stiff_paper, b_stiff_paper, g_stiff_paper⟩ := c_stiff_paper
  have sc := sc_law
  refine fn_law F sc rfl (fun cdv A outer s H E hr => ?_) hm
  refine ⟨_, (pss_cons (ps_set (i := 1) sc.nd rfl (by first | exact Or.inl rfl | exact Or.inr rfl) (pe_callG g__law_source (hr.mono (by decide)) (by rfl) mg__law_source kp__law_source b__law_source .nil pass0 (pa_cons (pv 0) pa_nil)))
      (pss_cons (ps_for PassesOwn.never rfl (pi_range1 rfl b_range (pa_cons pe_int pa_nil)) (pg_name (i := 2) sc.nd rfl (by first | exact Or.inl rfl | exact Or.inr rfl))
      (pss_cons (ps_set (i := 3) sc.nd rfl (by first | exact Or.inl rfl | exact Or.inr rfl) (pe_callG g__law_frame (hr.mono (by decide)) (by rfl) mg__law_frame kp__law_frame b__law_frame .nil pass0 (pa_cons (pv 1) (pa_cons (pe_ix (ixk (K := K) rIx rfl ix_seq) (pe_lst (pa_cons pe_int (pa_cons pe_int (pa_cons pe_int (pa_cons pe_int pa_nil))))) (pv 2) (fun _ _ => rfl)) (pa_cons (pe_ix (ixk (K := K) rIx rfl ix_seq) (pe_lst (pa_cons pe_int (pa_cons pe_int (pa_cons pe_int (pa_cons pe_int pa_nil))))) (pv 2) (fun _ _ => rfl)) pa_nil)))))
      (pss_cons (ps_par (i := 4) (j := 5) rfl sc.nd rfl rfl (by decide) rfl rfl (pa_cons (pe_callB (callk (K := K) rReprA rfl (call_reprA hr)) (by rfl) b_repr (by decide +kernel) (pa_cons (pv 3) pa_nil)) (pa_cons (pe_callG g__law_turning (hr.mono (by decide)) (by rfl) mg__law_turning kp__law_turning b__law_turning .nil pass0 (pa_cons (pv 1) (pa_cons (pv 3) pa_nil))) pa_nil)) (by first | rfl | (with_unfolding_all rfl) | (decide +kernel)))
      (pss_cons (ps_for PassesOwn.never rfl (pi_anyK (K := K) rfl (pe_slice (slk (K := K) rSlLT rfl sl_any) (pe_callG g__law_mixed (hr.mono (by decide)) (by rfl) mg__law_mixed kp__law_mixed b__law_mixed .nil pass0 (pa_cons (pv 1) (pa_cons (pe_listRg rfl (by rfl) b_list (prg_1 (by rfl) b_range (pe_callB (callk (K := K) rLenA rfl call_len_seq) (by rfl) b_len PySem.boot_len (pa_cons (pe_ix (ixk (K := K) rIx rfl ix_seq) (pv 3) pe_int (fun _ _ => rfl)) pa_nil)))) pa_nil))) po_none (po_some pe_int))) (pg_name (i := 6) sc.nd rfl (by first | exact Or.inl rfl | exact Or.inr rfl))
      (pss_cons (ps_par (i := 7) (j := 8) rfl sc.nd rfl rfl (by decide) rfl rfl (pa_cons (pe_callG g_stiff_paper (hr.mono (by decide)) (by rfl) mg_stiff_paper kp_stiff_paper b_stiff_paper .nil pass0 (pa_cons (pv 3) (pa_cons (pv 5) (pa_cons (pv 6) pa_nil)))) (pa_cons (pe_ix (ixk (K := K) rIx rfl ix_seq) (pe_ix (ixk (K := K) rIx rfl ix_seq) (pv 3) pe_int (fun _ _ => rfl)) (pv 6) (fun _ _ => rfl)) pa_nil)) (by first | rfl | (with_unfolding_all rfl) | (decide +kernel)))
      (pss_cons (ps_par (i := 9) (j := 10) rfl sc.nd rfl rfl (by decide) rfl rfl (pa_cons (pe_ix (ixk (K := K) rIx rfl ix_seq) (pv 8) (pe_ix (ixk (K := K) rIx rfl ix_seq) (pv 5) (pv 6) (fun _ _ => rfl)) (fun _ _ => rfl)) (pa_cons (pe_ix (ixk (K := K) rIx rfl ix_seq) (pv 8) (pe_op op_sub pe_int (pe_ix (ixk (K := K) rIx rfl ix_seq) (pv 5) (pv 6) (fun _ _ => rfl))) (fun _ _ => rfl)) pa_nil)) (by first | rfl | (with_unfolding_all rfl) | (decide +kernel)))
      (pss_cons (ps_set (i := 11) sc.nd rfl (by first | exact Or.inl rfl | exact Or.inr rfl) (pe_ifExp (pt_cmpR (opk (K := K) rInA rfl (op_inA (room65 hr))) (pv 9) (pe_callG g__law_led (hr.mono (by decide)) (by rfl) mg__law_led kp__law_led b__law_led .nil pass0 (pa_cons (pv 3) (pa_cons (pv 5) (pa_cons (pv 10) pa_nil)))) (by with_unfolding_all rfl)) pe_str pe_str))
      (pss_cons (ps_if (PW.pt (pw_or (pt_cmpR (opk (K := K) rNeD rfl (op_neD hr.units)) (pe_ix (ixk (K := K) rIx rfl ix_seq) (pv 7) pe_int (fun _ _ => rfl)) (pv 11) (nomark _)) (pw_or1 (pt_cmp (pc_notN (pe_callG g__law_fault (hr.mono (by decide)) (by rfl) mg__law_fault kp__law_fault b__law_fault .nil pass0 (pa_cons (pv 3) (pa_cons (pv 5) (pa_cons (pv 6) (pa_cons (pv 7) pa_nil))))))))))
      (pss_one (ps_ret pe_bl))
      pss_nil)
      (pss_one (ps_for PassesOwn.never rfl (pi_anyK (K := K) rfl (pe_callG g__law_values (hr.mono (by decide)) (by rfl) mg__law_values kp__law_values b__law_values .nil pass0 (pa_cons (pv 1) (pa_cons (pv 3) (pa_cons (pv 5) (pa_cons (pv 7) pa_nil)))))) (pg_name (i := 12) sc.nd rfl (by first | exact Or.inl rfl | exact Or.inr rfl))
      (pss_cons (ps_par (i := 13) (j := 14) rfl sc.nd rfl rfl (by decide) rfl rfl (pa_cons (pe_callB (callk (K := K) rReprA rfl (call_reprA hr)) (by rfl) b_repr (by decide +kernel) (pa_cons (pv 12) pa_nil)) (pa_cons (pe_callG g__law_fault (hr.mono (by decide)) (by rfl) mg__law_fault kp__law_fault b__law_fault .nil pass0 (pa_cons (pv 3) (pa_cons (pv 5) (pa_cons (pv 6) (pa_cons (pv 12) pa_nil))))) pa_nil)) (by first | rfl | (with_unfolding_all rfl) | (decide +kernel)))
      (pss_cons (ps_if (PW.pt (pw_or (pt_cmpR (opk (K := K) rNeD rfl (op_neD hr.units)) (pe_callB (callk (K := K) rReprA rfl (call_reprA hr)) (by rfl) b_repr (by decide +kernel) (pa_cons (pe_callG g_judge_stiff (hr.mono (by decide)) (by rfl) mg_judge_stiff kp_judge_stiff b_judge_stiff .nil pass0 (pa_cons (pv 3) (pa_cons (pv 5) (pa_cons (pv 6) (pa_cons (pv 12) pa_nil))))) pa_nil)) (pe_callB (callk (K := K) rReprA rfl (call_reprA hr)) (by rfl) b_repr (by decide +kernel) (pa_cons (pv 14) pa_nil)) (nomark _)) (pw_or1 (pt_cmpR (opk (K := K) rNeD rfl (op_neD hr.units)) (pe_callB (callk (K := K) rReprA rfl (call_reprA hr)) (by rfl) b_repr (by decide +kernel) (pa_cons (pv 12) pa_nil)) (pv 13) (nomark _)))))
      (pss_one (ps_ret pe_bl))
      pss_nil)
      (pss_one (ps_if (PW.pt (pw_and (pt_cmp (pc_isN (pv 14))) (pw_and1 (pt_cmpR (opk (K := K) rNeD rfl (op_neD hr.units)) (pe_ix (ixk (K := K) rIx rfl ix_seq) (pv 12) pe_int (fun _ _ => rfl)) (pv 11) (nomark _)))))
      (pss_one (ps_ret pe_bl))
      pss_nil)))))))))))
      (pss_one (ps_if (pt_cmpR (opk (K := K) rNeD rfl (op_neD hr.units)) (pe_callB (callk (K := K) rReprA rfl (call_reprA hr)) (by rfl) b_repr (by decide +kernel) (pa_cons (pv 3) pa_nil)) (pv 4) (nomark _))
      (pss_one (ps_ret pe_bl))
      pss_nil))))))
      (pss_one (ps_ret (pe_cmp (pc_isN (pe_callG g_judge_stiff (hr.mono (by decide)) (by rfl) mg_judge_stiff kp_judge_stiff b_judge_stiff .nil pass0 (pa_cons (pe_tup (pa_cons pe_int (pa_cons (pe_tup (pa_cons (pe_tup (pa_cons pe_int (pa_cons pe_int pa_nil))) (pa_cons (pe_tup (pa_cons pe_int (pa_cons pe_int pa_nil))) (pa_cons (pe_tup (pa_cons pe_int (pa_cons pe_int pa_nil))) pa_nil)))) pa_nil))) (pa_cons (pe_tup (pa_cons pe_int (pa_cons pe_int (pa_cons pe_int pa_nil)))) (pa_cons pe_int (pa_cons (pe_tup (pa_cons pe_str (pa_cons (pe_tup (pa_cons pe_int (pa_cons pe_int pa_nil))) pa_nil))) pa_nil))))))))))), ?_⟩
  exact fun a c => (ss_seq (ss_for (dead := [0, 2, 3, 4, 5, 6, 7, 8, 9, 10, 11, 12, 13, 14]) (si_r1 se_int) sg_n
      (ss_seq (ss_asg (se_callS (sa_cons se_v (sa_cons (se_2 r2_ix (SemN.e (sn_lst (sa_cons se_int (sa_cons se_int (sa_cons se_int (sa_cons se_int sa_nil)))))) se_v) (sa_cons (se_2 r2_ix (SemN.e (sn_lst (sa_cons se_int (sa_cons se_int (sa_cons se_int (sa_cons se_int sa_nil)))))) se_v) sa_nil)))) sg_n)
      (ss_seq (ss_par2 (sp_e (se_cb1 (b1 f1_repr) se_v) (sp_e (se_callS (sa_cons se_v (sa_cons se_v sa_nil))) sp_nil)) (by decide))
      (ss_seq (ss_for (dead := [0, 2, 6, 7, 8, 9, 10, 11, 12, 13, 14]) (si_any (se_cut rs_cut (se_callS (sa_cons se_v (sa_cons (SemN.e (sn_listR1 (se_cb1 (b1 f1_len) (se_2 r2_ix se_v se_int)))) sa_nil))) so_none (so_some se_int))) sg_n
      (ss_seq (ss_par2 (sp_e (se_callP (sa_cons se_v (sa_cons se_v (sa_cons se_v sa_nil)))) (sp_e (se_2 r2_ix (se_2 r2_ix se_v se_int) se_v) sp_nil)) (by decide))
      (ss_seq (ss_par2 (sp_e (se_2 r2_ix se_v (se_2 r2_ix se_v se_v)) (sp_e (se_2 r2_ix se_v (se_2 (r2_flat f2_sub) se_int (se_2 r2_ix se_v se_v))) sp_nil)) (by decide))
      (ss_seq (ss_asg (se_if (st_e (se_2 (r2_flat f2_in) se_v (se_callP (sa_cons se_v (sa_cons se_v (sa_cons se_v sa_nil)))))) se_str se_str) sg_n)
      (ss_seq (ss_if (st_or (st_e (se_2 (r2_flat f2_ne) (se_2 r2_ix se_v se_int) se_v)) (st_eB (se_notN (se_callP (sa_cons se_v (sa_cons se_v (sa_cons se_v (sa_cons se_v sa_nil))))))))
      (ss_ret se_bl)
      ss_nx)
      (ss_for (dead := [0, 2, 7, 8, 9, 10, 12, 13, 14]) (si_any (se_callS (sa_cons se_v (sa_cons se_v (sa_cons se_v (sa_cons se_v sa_nil)))))) sg_n
      (ss_seq (ss_par2 (sp_e (se_cb1 (b1 f1_repr) se_v) (sp_e (se_callP (sa_cons se_v (sa_cons se_v (sa_cons se_v (sa_cons se_v sa_nil))))) sp_nil)) (by decide))
      (ss_seq (ss_if (st_or (st_e (se_2 (r2_flat f2_ne) (se_cb1 (b1 f1_repr) (se_callP (sa_cons se_v (sa_cons se_v (sa_cons se_v (sa_cons se_v sa_nil)))))) (se_cb1 (b1 f1_repr) se_v))) (st_e (se_2 (r2_flat f2_ne) (se_cb1 (b1 f1_repr) se_v) se_v)))
      (ss_ret se_bl)
      ss_nx)
      (ss_if (st_and (st_eB (se_isN se_v)) (st_e (se_2 (r2_flat f2_ne) (se_2 r2_ix se_v se_int) se_v)))
      (ss_ret se_bl)
      ss_nx)))))))))
      (ss_if (st_e (se_2 (r2_flat f2_ne) (se_cb1 (b1 f1_repr) se_v) se_v))
      (ss_ret se_bl)
      ss_nx)))))
      (ss_ret (se_isN (se_callP (sa_cons (se_tup (sa_cons se_int (sa_cons (se_tup (sa_cons (se_tup (sa_cons se_int (sa_cons se_int sa_nil))) (sa_cons (se_tup (sa_cons se_int (sa_cons se_int sa_nil))) (sa_cons (se_tup (sa_cons se_int (sa_cons se_int sa_nil))) sa_nil)))) sa_nil))) (sa_cons (se_tup (sa_cons se_int (sa_cons se_int (sa_cons se_int sa_nil)))) (sa_cons se_int (sa_cons (se_tup (sa_cons se_str (sa_cons (se_tup (sa_cons se_int (sa_cons se_int sa_nil))) sa_nil))) sa_nil))))))))
end
end Fw
/-! ## Head -/
set_option Elab.async false
set_option linter.all false
set_option maxRecDepth 100000
set_option maxHeartbeats 4000000
namespace Fw
open PySem PySem.Spec PyProof.Rows L2
/-! ### what the top has written -/
structure DefF (K : PySem.W.Frag) (x : Str) (st : Stmt) (f : Addr) (fd : FuncData) : Prop where
  ns : PySem.W.nsIn K mainGlobals x = some (some (.ref f))
  kp : PySem.W.keepIn K (.ref f) = true
  fn : Fun K x x st f fd
theorem DefF.of {K : PySem.W.Frag} {x : Str} {st : Stmt} {f : Addr} {od an : Option Addr} {sl : Array (Option Value)} {oc kV dc pm cd ct : Value} (a : PySem.W.nsIn K mainGlobals x = some (some (.ref f))) (l : K.lookup f = some ⟨oc, od, .func (PySem.W.fnOf x x (defArgs st) (defBody st) (defScope st) .none kV dc pm an cd ct), sl⟩) (c : PySem.W.codeIn K cd x = true) (k : PySem.W.keepIn K (.ref f) = true) : DefF K x st f (PySem.W.fnOf x x (defArgs st) (defBody st) (defScope st) .none kV dc pm an cd ct) := ⟨a, k, fun_mk (st := st) l c k⟩

theorem all_mk {P : Program} {w : World} {K : PySem.W.Frag} {h : Heap} {mg : Str → Option Value} {fa : Addr} (X : K.In h) (G : h.Ns mainGlobals mg) (hfa : mg "law" = some (.ref fa)) {f_tail_of f_head_of f_outs_of f_roads_within f_outs_at f_ways_from f_led_from f_is_crossing_lot f_is_tight f_from_least f_ring_with f_is_turning_ring f_stiff_paper f_judge_stiff f__law_source f__law_pick f__law_of f__law_mixed f__law_frame f__law_turning f__law_outs f__law_led f__law_all_lots f__law_within f__law_is_int f__law_is_lot f__law_ring_starts f__law_is_turning_ring f__law_fault f__law_values f_law : Addr} {fd_tail_of fd_head_of fd_outs_of fd_roads_within fd_outs_at fd_ways_from fd_led_from fd_is_crossing_lot fd_is_tight fd_from_least fd_ring_with fd_is_turning_ring fd_stiff_paper fd_judge_stiff fd__law_source fd__law_pick fd__law_of fd__law_mixed fd__law_frame fd__law_turning fd__law_outs fd__law_led fd__law_all_lots fd__law_within fd__law_is_int fd__law_is_lot fd__law_ring_starts fd__law_is_turning_ring fd__law_fault fd__law_values fd_law : FuncData}
    (d_tail_of : DefF K "tail_of" (topS 1) f_tail_of fd_tail_of)
    (d_head_of : DefF K "head_of" (topS 2) f_head_of fd_head_of)
    (d_outs_of : DefF K "outs_of" (topS 3) f_outs_of fd_outs_of)
    (d_roads_within : DefF K "roads_within" (topS 5) f_roads_within fd_roads_within)
    (d_outs_at : DefF K "outs_at" (topS 6) f_outs_at fd_outs_at)
    (d_ways_from : DefF K "ways_from" (topS 7) f_ways_from fd_ways_from)
    (d_led_from : DefF K "led_from" (topS 8) f_led_from fd_led_from)
    (d_is_crossing_lot : DefF K "is_crossing_lot" (topS 9) f_is_crossing_lot fd_is_crossing_lot)
    (d_is_tight : DefF K "is_tight" (topS 11) f_is_tight fd_is_tight)
    (d_from_least : DefF K "from_least" (topS 12) f_from_least fd_from_least)
    (d_ring_with : DefF K "ring_with" (topS 13) f_ring_with fd_ring_with)
    (d_is_turning_ring : DefF K "is_turning_ring" (topS 14) f_is_turning_ring fd_is_turning_ring)
    (d_stiff_paper : DefF K "stiff_paper" (topS 15) f_stiff_paper fd_stiff_paper)
    (d_judge_stiff : DefF K "judge_stiff" (topS 16) f_judge_stiff fd_judge_stiff)
    (d__law_source : DefF K "_law_source" sSource f__law_source fd__law_source)
    (d__law_pick : DefF K "_law_pick" sPick f__law_pick fd__law_pick)
    (d__law_of : DefF K "_law_of" (topS 20) f__law_of fd__law_of)
    (d__law_mixed : DefF K "_law_mixed" (topS 21) f__law_mixed fd__law_mixed)
    (d__law_frame : DefF K "_law_frame" (topS 22) f__law_frame fd__law_frame)
    (d__law_turning : DefF K "_law_turning" (topS 23) f__law_turning fd__law_turning)
    (d__law_outs : DefF K "_law_outs" (topS 24) f__law_outs fd__law_outs)
    (d__law_led : DefF K "_law_led" (topS 25) f__law_led fd__law_led)
    (d__law_all_lots : DefF K "_law_all_lots" (topS 26) f__law_all_lots fd__law_all_lots)
    (d__law_within : DefF K "_law_within" (topS 27) f__law_within fd__law_within)
    (d__law_is_int : DefF K "_law_is_int" (topS 28) f__law_is_int fd__law_is_int)
    (d__law_is_lot : DefF K "_law_is_lot" (topS 29) f__law_is_lot fd__law_is_lot)
    (d__law_ring_starts : DefF K "_law_ring_starts" (topS 30) f__law_ring_starts fd__law_ring_starts)
    (d__law_is_turning_ring : DefF K "_law_is_turning_ring" (topS 31) f__law_is_turning_ring fd__law_is_turning_ring)
    (d__law_fault : DefF K "_law_fault" (topS 32) f__law_fault fd__law_fault)
    (d__law_values : DefF K "_law_values" (topS 33) f__law_values fd__law_values)
    (d_law : DefF K "law" (topS 34) f_law fd_law)
    (z_abs : PySem.W.nsIn K mainGlobals "abs" = some none)
    (z_all : PySem.W.nsIn K mainGlobals "all" = some none)
    (z_bool : PySem.W.nsIn K mainGlobals "bool" = some none)
    (z_dict : PySem.W.nsIn K mainGlobals "dict" = some none)
    (z_int : PySem.W.nsIn K mainGlobals "int" = some none)
    (z_isinstance : PySem.W.nsIn K mainGlobals "isinstance" = some none)
    (z_len : PySem.W.nsIn K mainGlobals "len" = some none)
    (z_list : PySem.W.nsIn K mainGlobals "list" = some none)
    (z_max : PySem.W.nsIn K mainGlobals "max" = some none)
    (z_min : PySem.W.nsIn K mainGlobals "min" = some none)
    (z_range : PySem.W.nsIn K mainGlobals "range" = some none)
    (z_repr : PySem.W.nsIn K mainGlobals "repr" = some none)
    (z_sorted : PySem.W.nsIn K mainGlobals "sorted" = some none)
    (z_str : PySem.W.nsIn K mainGlobals "str" = some none)
    (z_sum : PySem.W.nsIn K mainGlobals "sum" = some none)
    (z_tuple : PySem.W.nsIn K mainGlobals "tuple" = some none)
    (z_zip : PySem.W.nsIn K mainGlobals "zip" = some none) :
    ∀ base : Heap, K.In base → base.Ns mainGlobals mg → FnG P w K mg base CX0 5 fa fd_law ["script"] (spLaw K) := by
  have e := hfa.symm.trans (PySem.W.mg_of X G d_law.ns)
  cases e
  intro base _ _
  have b_abs := PySem.W.mg_none_of X G z_abs
  have b_all := PySem.W.mg_none_of X G z_all
  have b_bool := PySem.W.mg_none_of X G z_bool
  have b_dict := PySem.W.mg_none_of X G z_dict
  have b_int := PySem.W.mg_none_of X G z_int
  have b_isinstance := PySem.W.mg_none_of X G z_isinstance
  have b_len := PySem.W.mg_none_of X G z_len
  have b_list := PySem.W.mg_none_of X G z_list
  have b_max := PySem.W.mg_none_of X G z_max
  have b_min := PySem.W.mg_none_of X G z_min
  have b_range := PySem.W.mg_none_of X G z_range
  have b_repr := PySem.W.mg_none_of X G z_repr
  have b_sorted := PySem.W.mg_none_of X G z_sorted
  have b_str := PySem.W.mg_none_of X G z_str
  have b_sum := PySem.W.mg_none_of X G z_sum
  have b_tuple := PySem.W.mg_none_of X G z_tuple
  have b_zip := PySem.W.mg_none_of X G z_zip
  have n_tail_of := d_tail_of.fn.binds (ps := ["frame", "turning", "road"]) fun _ _ _ _ _ _ us hl => match us, hl with | [_, _, _], _ => rfl
  have g_tail_of := ok_tail_of (P := P) (w := w) (mg := mg) (base := base) d_tail_of.fn 
  have c_tail_of : Callee P w K mg base _ "tail_of" _ _ := ⟨_, _, PySem.W.mg_of X G d_tail_of.ns, d_tail_of.kp, n_tail_of, g_tail_of⟩
  have n_head_of := d_head_of.fn.binds (ps := ["frame", "turning", "road"]) fun _ _ _ _ _ _ us hl => match us, hl with | [_, _, _], _ => rfl
  have g_head_of := ok_head_of (P := P) (w := w) (mg := mg) (base := base) d_head_of.fn 
  have c_head_of : Callee P w K mg base _ "head_of" _ _ := ⟨_, _, PySem.W.mg_of X G d_head_of.ns, d_head_of.kp, n_head_of, g_head_of⟩
  have n_outs_of := d_outs_of.fn.binds (ps := ["frame", "turning"]) fun _ _ _ _ _ _ us hl => match us, hl with | [_, _], _ => rfl
  have g_outs_of := ok_outs_of (P := P) (w := w) (mg := mg) (base := base) d_outs_of.fn c_tail_of b_len b_range b_tuple
  have c_outs_of : Callee P w K mg base _ "outs_of" _ _ := ⟨_, _, PySem.W.mg_of X G d_outs_of.ns, d_outs_of.kp, n_outs_of, g_outs_of⟩
  have n_roads_within := d_roads_within.fn.binds (ps := ["frame", "lot"]) fun _ _ _ _ _ _ us hl => match us, hl with | [_, _], _ => rfl
  have g_roads_within := ok_roads_within (P := P) (w := w) (mg := mg) (base := base) d_roads_within.fn b_len
  have c_roads_within : Callee P w K mg base _ "roads_within" _ _ := ⟨_, _, PySem.W.mg_of X G d_roads_within.ns, d_roads_within.kp, n_roads_within, g_roads_within⟩
  have n_outs_at := d_outs_at.fn.binds (ps := ["outs", "lot"]) fun _ _ _ _ _ _ us hl => match us, hl with | [_, _], _ => rfl
  have g_outs_at := ok_outs_at (P := P) (w := w) (mg := mg) (base := base) d_outs_at.fn b_sum
  have c_outs_at : Callee P w K mg base _ "outs_at" _ _ := ⟨_, _, PySem.W.mg_of X G d_outs_at.ns, d_outs_at.kp, n_outs_at, g_outs_at⟩
  have n_ways_from := d_ways_from.fn.binds (ps := ["frame", "turning", "crossing"]) fun _ _ _ _ _ _ us hl => match us, hl with | [_, _, _], _ => rfl
  have g_ways_from := ok_ways_from (P := P) (w := w) (mg := mg) (base := base) d_ways_from.fn c_head_of c_tail_of b_len b_range
  have c_ways_from : Callee P w K mg base _ "ways_from" _ _ := ⟨_, _, PySem.W.mg_of X G d_ways_from.ns, d_ways_from.kp, n_ways_from, g_ways_from⟩
  have n_led_from := d_led_from.fn.binds (ps := ["frame", "turning", "crossing"]) fun _ _ _ _ _ _ us hl => match us, hl with | [_, _, _], _ => rfl
  have g_led_from := ok_led_from (P := P) (w := w) (mg := mg) (base := base) d_led_from.fn c_ways_from b_sorted b_tuple
  have c_led_from : Callee P w K mg base _ "led_from" _ _ := ⟨_, _, PySem.W.mg_of X G d_led_from.ns, d_led_from.kp, n_led_from, g_led_from⟩
  have n_is_crossing_lot := d_is_crossing_lot.fn.binds (ps := ["frame", "value"]) fun _ _ _ _ _ _ us hl => match us, hl with | [_, _], _ => rfl
  have g_is_crossing_lot := ok_is_crossing_lot (P := P) (w := w) (mg := mg) (base := base) d_is_crossing_lot.fn b_all b_bool b_int b_isinstance b_len b_range b_tuple
  have c_is_crossing_lot : Callee P w K mg base _ "is_crossing_lot" _ _ := ⟨_, _, PySem.W.mg_of X G d_is_crossing_lot.ns, d_is_crossing_lot.kp, n_is_crossing_lot, g_is_crossing_lot⟩
  have n_is_tight := d_is_tight.fn.binds (ps := ["frame", "outs", "lot"]) fun _ _ _ _ _ _ us hl => match us, hl with | [_, _, _], _ => rfl
  have g_is_tight := ok_is_tight (P := P) (w := w) (mg := mg) (base := base) d_is_tight.fn c_outs_at c_roads_within
  have c_is_tight : Callee P w K mg base _ "is_tight" _ _ := ⟨_, _, PySem.W.mg_of X G d_is_tight.ns, d_is_tight.kp, n_is_tight, g_is_tight⟩
  have n_from_least := d_from_least.fn.binds (ps := ["ring"]) fun _ _ _ _ _ _ us hl => match us, hl with | [_], _ => rfl
  have g_from_least := ok_from_least (P := P) (w := w) (mg := mg) (base := base) d_from_least.fn b_min
  have c_from_least : Callee P w K mg base _ "from_least" _ _ := ⟨_, _, PySem.W.mg_of X G d_from_least.ns, d_from_least.kp, n_from_least, g_from_least⟩
  have n_ring_with := d_ring_with.fn.binds (ps := ["frame", "turning", "road"]) fun _ _ _ _ _ _ us hl => match us, hl with | [_, _, _], _ => rfl
  have g_ring_with := ok_ring_with (P := P) (w := w) (mg := mg) (base := base) d_ring_with.fn c_from_least c_head_of c_tail_of c_ways_from
  have c_ring_with : Callee P w K mg base _ "ring_with" _ _ := ⟨_, _, PySem.W.mg_of X G d_ring_with.ns, d_ring_with.kp, n_ring_with, g_ring_with⟩
  have n_is_turning_ring := d_is_turning_ring.fn.binds (ps := ["frame", "turning", "value"]) fun _ _ _ _ _ _ us hl => match us, hl with | [_, _, _], _ => rfl
  have g_is_turning_ring := ok_is_turning_ring (P := P) (w := w) (mg := mg) (base := base) d_is_turning_ring.fn c_head_of c_tail_of b_all b_bool b_int b_isinstance b_len b_min b_tuple
  have c_is_turning_ring : Callee P w K mg base _ "is_turning_ring" _ _ := ⟨_, _, PySem.W.mg_of X G d_is_turning_ring.ns, d_is_turning_ring.kp, n_is_turning_ring, g_is_turning_ring⟩
  have n_stiff_paper := d_stiff_paper.fn.binds (ps := ["frame", "turning", "road"]) fun _ _ _ _ _ _ us hl => match us, hl with | [_, _, _], _ => rfl
  have g_stiff_paper := ok_stiff_paper (P := P) (w := w) (mg := mg) (base := base) d_stiff_paper.fn c_head_of c_led_from c_ring_with
  have c_stiff_paper : Callee P w K mg base _ "stiff_paper" _ _ := ⟨_, _, PySem.W.mg_of X G d_stiff_paper.ns, d_stiff_paper.kp, n_stiff_paper, g_stiff_paper⟩
  have n_judge_stiff := d_judge_stiff.fn.binds (ps := ["frame", "turning", "road", "value"]) fun _ _ _ _ _ _ us hl => match us, hl with | [_, _, _, _], _ => rfl
  have g_judge_stiff := ok_judge_stiff (P := P) (w := w) (mg := mg) (base := base) d_judge_stiff.fn c_head_of c_is_crossing_lot c_is_tight c_is_turning_ring c_outs_of c_tail_of b_isinstance b_len b_str b_tuple
  have c_judge_stiff : Callee P w K mg base _ "judge_stiff" _ _ := ⟨_, _, PySem.W.mg_of X G d_judge_stiff.ns, d_judge_stiff.kp, n_judge_stiff, g_judge_stiff⟩
  have n__law_source := d__law_source.fn.binds (ps := ["script"]) fun _ _ _ _ _ _ us hl => match us, hl with | [_], _ => rfl
  have g__law_source := FnG.of (ok_source (P := P) (w := w) (mg := mg) (base := base) d__law_source.fn b_abs b_int)
  have c__law_source : Callee P w K mg base _ "_law_source" _ _ := ⟨_, _, PySem.W.mg_of X G d__law_source.ns, d__law_source.kp, n__law_source, g__law_source⟩
  have n__law_pick := d__law_pick.fn.binds (ps := ["source", "many"]) fun _ _ _ _ _ _ us hl => match us, hl with | [_, _], _ => rfl
  have g__law_pick := FnG.of (ok_pick (P := P) (w := w) (mg := mg) (base := base) d__law_pick.fn b_len b_max b_int)
  have c__law_pick : Callee P w K mg base _ "_law_pick" _ _ := ⟨_, _, PySem.W.mg_of X G d__law_pick.ns, d__law_pick.kp, n__law_pick, g__law_pick⟩
  have n__law_of := d__law_of.fn.binds (ps := ["source", "some"]) fun _ _ _ _ _ _ us hl => match us, hl with | [_, _], _ => rfl
  have g__law_of := ok__law_of (P := P) (w := w) (mg := mg) (base := base) d__law_of.fn c__law_pick b_len
  have c__law_of : Callee P w K mg base _ "_law_of" _ _ := ⟨_, _, PySem.W.mg_of X G d__law_of.ns, d__law_of.kp, n__law_of, g__law_of⟩
  have n__law_mixed := d__law_mixed.fn.binds (ps := ["source", "things"]) fun _ _ _ _ _ _ us hl => match us, hl with | [_, _], _ => rfl
  have g__law_mixed := ok__law_mixed (P := P) (w := w) (mg := mg) (base := base) d__law_mixed.fn c__law_pick b_len b_list b_range
  have c__law_mixed : Callee P w K mg base _ "_law_mixed" _ _ := ⟨_, _, PySem.W.mg_of X G d__law_mixed.ns, d__law_mixed.kp, n__law_mixed, g__law_mixed⟩
  have n__law_frame := d__law_frame.fn.binds (ps := ["source", "most", "roads"]) fun _ _ _ _ _ _ us hl => match us, hl with | [_, _, _], _ => rfl
  have g__law_frame := ok__law_frame (P := P) (w := w) (mg := mg) (base := base) d__law_frame.fn c__law_pick b_int b_range b_tuple
  have c__law_frame : Callee P w K mg base _ "_law_frame" _ _ := ⟨_, _, PySem.W.mg_of X G d__law_frame.ns, d__law_frame.kp, n__law_frame, g__law_frame⟩
  have n__law_turning := d__law_turning.fn.binds (ps := ["source", "frame"]) fun _ _ _ _ _ _ us hl => match us, hl with | [_, _], _ => rfl
  have g__law_turning := ok__law_turning (P := P) (w := w) (mg := mg) (base := base) d__law_turning.fn c__law_pick b_tuple
  have c__law_turning : Callee P w K mg base _ "_law_turning" _ _ := ⟨_, _, PySem.W.mg_of X G d__law_turning.ns, d__law_turning.kp, n__law_turning, g__law_turning⟩
  have n__law_outs := d__law_outs.fn.binds (ps := ["frame", "turning"]) fun _ _ _ _ _ _ us hl => match us, hl with | [_, _], _ => rfl
  have g__law_outs := ok__law_outs (P := P) (w := w) (mg := mg) (base := base) d__law_outs.fn b_tuple b_zip
  have c__law_outs : Callee P w K mg base _ "_law_outs" _ _ := ⟨_, _, PySem.W.mg_of X G d__law_outs.ns, d__law_outs.kp, n__law_outs, g__law_outs⟩
  have n__law_led := d__law_led.fn.binds (ps := ["frame", "turning", "crossing"]) fun _ _ _ _ _ _ us hl => match us, hl with | [_, _, _], _ => rfl
  have g__law_led := ok__law_led (P := P) (w := w) (mg := mg) (base := base) d__law_led.fn b_range b_sorted b_zip
  have c__law_led : Callee P w K mg base _ "_law_led" _ _ := ⟨_, _, PySem.W.mg_of X G d__law_led.ns, d__law_led.kp, n__law_led, g__law_led⟩
  have n__law_all_lots := d__law_all_lots.fn.binds (ps := ["n"]) fun _ _ _ _ _ _ us hl => match us, hl with | [_], _ => rfl
  have g__law_all_lots := ok__law_all_lots (P := P) (w := w) (mg := mg) (base := base) d__law_all_lots.fn b_range
  have c__law_all_lots : Callee P w K mg base _ "_law_all_lots" _ _ := ⟨_, _, PySem.W.mg_of X G d__law_all_lots.ns, d__law_all_lots.kp, n__law_all_lots, g__law_all_lots⟩
  have n__law_within := d__law_within.fn.binds (ps := ["frame", "lot"]) fun _ _ _ _ _ _ us hl => match us, hl with | [_, _], _ => rfl
  have g__law_within := ok__law_within (P := P) (w := w) (mg := mg) (base := base) d__law_within.fn b_len
  have c__law_within : Callee P w K mg base _ "_law_within" _ _ := ⟨_, _, PySem.W.mg_of X G d__law_within.ns, d__law_within.kp, n__law_within, g__law_within⟩
  have n__law_is_int := d__law_is_int.fn.binds (ps := ["value"]) fun _ _ _ _ _ _ us hl => match us, hl with | [_], _ => rfl
  have g__law_is_int := ok__law_is_int (P := P) (w := w) (mg := mg) (base := base) d__law_is_int.fn b_bool b_int b_isinstance
  have c__law_is_int : Callee P w K mg base _ "_law_is_int" _ _ := ⟨_, _, PySem.W.mg_of X G d__law_is_int.ns, d__law_is_int.kp, n__law_is_int, g__law_is_int⟩
  have n__law_is_lot := d__law_is_lot.fn.binds (ps := ["value", "many"]) fun _ _ _ _ _ _ us hl => match us, hl with | [_, _], _ => rfl
  have g__law_is_lot := ok__law_is_lot (P := P) (w := w) (mg := mg) (base := base) d__law_is_lot.fn c__law_is_int b_isinstance b_len b_range b_tuple
  have c__law_is_lot : Callee P w K mg base _ "_law_is_lot" _ _ := ⟨_, _, PySem.W.mg_of X G d__law_is_lot.ns, d__law_is_lot.kp, n__law_is_lot, g__law_is_lot⟩
  have n__law_ring_starts := d__law_ring_starts.fn.binds (ps := ["frame", "turning", "ring"]) fun _ _ _ _ _ _ us hl => match us, hl with | [_, _, _], _ => rfl
  have g__law_ring_starts := ok__law_ring_starts (P := P) (w := w) (mg := mg) (base := base) d__law_ring_starts.fn 
  have c__law_ring_starts : Callee P w K mg base _ "_law_ring_starts" _ _ := ⟨_, _, PySem.W.mg_of X G d__law_ring_starts.ns, d__law_ring_starts.kp, n__law_ring_starts, g__law_ring_starts⟩
  have n__law_is_turning_ring := d__law_is_turning_ring.fn.binds (ps := ["frame", "turning", "value"]) fun _ _ _ _ _ _ us hl => match us, hl with | [_, _, _], _ => rfl
  have g__law_is_turning_ring := ok__law_is_turning_ring (P := P) (w := w) (mg := mg) (base := base) d__law_is_turning_ring.fn c__law_is_int c__law_ring_starts b_dict b_isinstance b_len b_max b_min b_tuple
  have c__law_is_turning_ring : Callee P w K mg base _ "_law_is_turning_ring" _ _ := ⟨_, _, PySem.W.mg_of X G d__law_is_turning_ring.ns, d__law_is_turning_ring.kp, n__law_is_turning_ring, g__law_is_turning_ring⟩
  have n__law_fault := d__law_fault.fn.binds (ps := ["frame", "turning", "road", "value"]) fun _ _ _ _ _ _ us hl => match us, hl with | [_, _, _, _], _ => rfl
  have g__law_fault := ok__law_fault (P := P) (w := w) (mg := mg) (base := base) d__law_fault.fn c__law_is_lot c__law_is_turning_ring c__law_outs c__law_within b_isinstance b_len b_repr b_sum b_tuple
  have c__law_fault : Callee P w K mg base _ "_law_fault" _ _ := ⟨_, _, PySem.W.mg_of X G d__law_fault.ns, d__law_fault.kp, n__law_fault, g__law_fault⟩
  have n__law_values := d__law_values.fn.binds (ps := ["source", "frame", "turning", "told"]) fun _ _ _ _ _ _ us hl => match us, hl with | [_, _, _, _], _ => rfl
  have g__law_values := ok__law_values (P := P) (w := w) (mg := mg) (base := base) d__law_values.fn c__law_all_lots c__law_led c__law_of c__law_pick b_len b_list b_range b_tuple
  have c__law_values : Callee P w K mg base _ "_law_values" _ _ := ⟨_, _, PySem.W.mg_of X G d__law_values.ns, d__law_values.kp, n__law_values, g__law_values⟩
  exact ok_law d_law.fn c__law_source c__law_fault c__law_frame c__law_led c__law_mixed c__law_turning c__law_values c_judge_stiff c_stiff_paper b_len b_list b_range b_repr fun a ns _ => law_hm a ns
end Fw
/-! ## Fin -/
open PySem PySem.W PyProof.Rows
set_option maxHeartbeats 0 in
theorem PySem.Challenge.cw_heightnets_k22_stiff_papers_judged_holds : PySem.Challenge.rw_heightnets_k22_stiff_papers_judged.Holds := by
  w_on; o_law; k_head; (case hw => w_witness2)
  k_fill
  refine Fw.walk_ofG (l := PySem.Challenge.rw_heightnets_k22_stiff_papers_judged) (n := 63) (k := 5) (x := "script") (CX := L2.CX0) rfl (by decide) rfl ⟨⟨rfl, by decide, by decide⟩, rfl⟩ (fun w mg fa h Y G hmg => ?F) (fun _ _ _ _ h => h)
  case F =>
    have KX := PySem.W.kIn_of Y
    have hF := Fw.all_mk (P := PySem.Challenge.rw_heightnets_k22_stiff_papers_judged.prog) (w := w) KX G hmg (Fw.DefF.of (by k_is) (by k_is) (by k_is) (by k_is)) (Fw.DefF.of (by k_is) (by k_is) (by k_is) (by k_is)) (Fw.DefF.of (by k_is) (by k_is) (by k_is) (by k_is)) (Fw.DefF.of (by k_is) (by k_is) (by k_is) (by k_is)) (Fw.DefF.of (by k_is) (by k_is) (by k_is) (by k_is)) (Fw.DefF.of (by k_is) (by k_is) (by k_is) (by k_is)) (Fw.DefF.of (by k_is) (by k_is) (by k_is) (by k_is)) (Fw.DefF.of (by k_is) (by k_is) (by k_is) (by k_is)) (Fw.DefF.of (by k_is) (by k_is) (by k_is) (by k_is)) (Fw.DefF.of (by k_is) (by k_is) (by k_is) (by k_is)) (Fw.DefF.of (by k_is) (by k_is) (by k_is) (by k_is)) (Fw.DefF.of (by k_is) (by k_is) (by k_is) (by k_is)) (Fw.DefF.of (by k_is) (by k_is) (by k_is) (by k_is)) (Fw.DefF.of (by k_is) (by k_is) (by k_is) (by k_is)) (Fw.DefF.of (by k_is) (by k_is) (by k_is) (by k_is)) (Fw.DefF.of (by k_is) (by k_is) (by k_is) (by k_is)) (Fw.DefF.of (by k_is) (by k_is) (by k_is) (by k_is)) (Fw.DefF.of (by k_is) (by k_is) (by k_is) (by k_is)) (Fw.DefF.of (by k_is) (by k_is) (by k_is) (by k_is)) (Fw.DefF.of (by k_is) (by k_is) (by k_is) (by k_is)) (Fw.DefF.of (by k_is) (by k_is) (by k_is) (by k_is)) (Fw.DefF.of (by k_is) (by k_is) (by k_is) (by k_is)) (Fw.DefF.of (by k_is) (by k_is) (by k_is) (by k_is)) (Fw.DefF.of (by k_is) (by k_is) (by k_is) (by k_is)) (Fw.DefF.of (by k_is) (by k_is) (by k_is) (by k_is)) (Fw.DefF.of (by k_is) (by k_is) (by k_is) (by k_is)) (Fw.DefF.of (by k_is) (by k_is) (by k_is) (by k_is)) (Fw.DefF.of (by k_is) (by k_is) (by k_is) (by k_is)) (Fw.DefF.of (by k_is) (by k_is) (by k_is) (by k_is)) (Fw.DefF.of (by k_is) (by k_is) (by k_is) (by k_is)) (Fw.DefF.of (by k_is) (by k_is) (by k_is) (by k_is))  (by k_is) (by k_is) (by k_is) (by k_is) (by k_is) (by k_is) (by k_is) (by k_is) (by k_is) (by k_is) (by k_is) (by k_is) (by k_is) (by k_is) (by k_is) (by k_is) (by k_is)
    exact ⟨_, _, Fw.spLaw _, KX, fun s u => .of_eq rfl, fun H a ns hl _ hS => ⟨a, ns, rfl, hS, hl, fun _ => rfl⟩, hF⟩
