import PyProof.Rows.All
import Wide.All
import OpenK.AllK
import Wide.FinOn
import PySem.Str
import HandS.ForMost
import HandS.Wide
import HandS.IsInst
import HandS.Style
import HandS.SortInts
import HandS.Conv
import HandS.EndBits
import HandS.Lambda
import HandS.Nested
import HandS.EndTab
import HandS.TupLen
import HandS.NoneIn
import HandS.TupAny
import HandS.Iter
import HandS.Strs
import HandS.More
import KE.KEqDict
import KE.OsSort
import KE.KDictSum
import KE.KIndexOf
import HandS.SortRule
import KE.GoesMore
import KE.GoesEnum
import HandS.Rev
import HandS.RevTup
import HandS.SetFor
import HandS.Set
import KE.SortKeyHeap
import HandS.SortKw
import HandS.Deep
import HandS.Zip
import HandS.Finally
import KE.SortData
import HandS.DeepEq
import HandS.WideBits
import HandS.WordsExc
import HandS.TryMany
import HandS.Defaults
import HandS.CallSlots
import HandS.ExcIs
import PySem.Challenge.RW_evenwalls_k20_fill_refused
section
set_option linter.all false
/-! EwS: a small machine for the Python of this program: values, cells, expressions and statements as functions of slots and cells. -/
namespace Ew
open PySem (Str)
/-- a key of a dict -/
abbrev MK := Sum Int Str
/-- a value; lst, dK, dT are lists and dicts that are never written again; ref n is the cell n; scr the script; row a tuple that is known to have no dict -/
inductive MV where
  | non | bl (b : Bool) | int (i : Int) | str (x : Str)
  | tup (xs : List MV) | lst (xs : List MV) | scr (xs : List Int)
  | dK (kvs : List (MK × MV)) | dT (kvs : List (List MK × MV))
  | ref (n : Nat)
  | row (xs : List MV)
/-- a cell: what may be written -/
inductive MC where
  | lst (xs : List MV) | dK (kvs : List (MK × MV)) | dT (kvs : List (List MK × MV))
  | lkK (kvs : List (MK × MV)) | lkT (kvs : List (List MK × MV))
  | tab (n : Nat)
abbrev MH := List MC
abbrev SM := List (Option MV)
abbrev XE := SM → MH → Option (MV × MH)
abbrev XT := SM → MH → Option (Bool × MH)
abbrev XA := SM → MH → Option (List MV × MH)
inductive Fl where
  | nx | rt (v : MV) | bk | ct
abbrev XS := SM → MH → Option (Fl × SM × MH)
abbrev XG := MV → SM → MH → Option (SM × MH)
abbrev Fn := List MV → MH → Option (MV × MH)

/-! ### expressions -/
def xVar (i : Nat) : XE := fun s h => match s[i]? with
  | some (some v) => some (v, h)
  | _ => none
def xC (v : MV) : XE := fun _ h => some (v, h)
/-- an operation of two values that changes nothing -/
def xOp (f : MH → MV → MV → Option MV) (a b : XE) : XE := fun s h => match a s h with
  | none => none
  | some (x, h1) => match b s h1 with
    | none => none
    | some (y, h2) => match f h2 x y with
      | none => none
      | some v => some (v, h2)
def xUn (f : MH → MV → Option MV) (a : XE) : XE := fun s h => match a s h with
  | none => none
  | some (x, h1) => match f h1 x with
    | none => none
    | some v => some (v, h1)
def xNil : XA := fun _ h => some ([], h)
def xCons (a : XE) (r : XA) : XA := fun s h => match a s h with
  | none => none
  | some (x, h1) => match r s h1 with
    | none => none
    | some (xs, h2) => some (x :: xs, h2)
/-- an operation of arguments that changes nothing -/
def xArgs (f : MH → List MV → Option MV) (a : XA) : XE := fun s h => match a s h with
  | none => none
  | some (xs, h1) => match f h1 xs with
    | none => none
    | some v => some (v, h1)
/-- a call -/
def xCall (g : Fn) (a : XA) : XE := fun s h => match a s h with
  | none => none
  | some (xs, h1) => g xs h1
def xTup (a : XA) : XE := fun s h => match a s h with
  | none => none
  | some (xs, h1) => some (.tup xs, h1)
/-- a tuple that is displayed, a row -/
def xTupR (a : XA) : XE := fun s h => match a s h with
  | none => none
  | some (xs, h1) => some (.row xs, h1)
def xLst (a : XA) : XE := fun s h => match a s h with
  | none => none
  | some (xs, h1) => some (.lst xs, h1)
/-- a fresh list or dict made a cell -/
def boxM (v : MV) (h : MH) : Option (MV × MH) := match v with
  | .lst xs => some (.ref h.length, h ++ [.lst xs])
  | .dK kvs => some (.ref h.length, h ++ [.dK kvs])
  | .dT kvs => some (.ref h.length, h ++ [.dT kvs])
  | _ => none
def xBox (e : XE) : XE := fun s h => match e s h with
  | none => none
  | some (v, h1) => boxM v h1
def xIf (c : XT) (a b : XE) : XE := fun s h => match c s h with
  | none => none
  | some (true, h1) => a s h1
  | some (false, h1) => b s h1
/-- and, or, not as values -/
def xAnd (a b : XE) : XE := fun s h => match a s h with
  | some (.bl true, h1) => b s h1
  | some (.bl false, h1) => some (.bl false, h1)
  | _ => none
def xOr (a b : XE) : XE := fun s h => match a s h with
  | some (.bl true, h1) => some (.bl true, h1)
  | some (.bl false, h1) => b s h1
  | _ => none
def xNot (a : XE) : XE := fun s h => match a s h with
  | some (.bl k, h1) => some (.bl (!k), h1)
  | _ => none
/-! ### tests -/
def xB (a : XE) : XT := fun s h => match a s h with
  | some (.bl k, h1) => some (k, h1)
  | _ => none
def xAndT (a b : XT) : XT := fun s h => match a s h with
  | none => none
  | some (true, h1) => b s h1
  | some (false, h1) => some (false, h1)
def xOrT (a b : XT) : XT := fun s h => match a s h with
  | none => none
  | some (true, h1) => some (true, h1)
  | some (false, h1) => b s h1
def xNotT (a : XT) : XT := fun s h => match a s h with
  | none => none
  | some (k, h1) => some (!k, h1)

/-! ### what is read of values -/
/-- a list: a value, the script, a cell -/
def listOf (h : MH) : MV → Option (List MV)
  | .lst xs => some xs
  | .scr xs => some (xs.map .int)
  | .ref n => match h[n]? with
    | some (.lst xs) => some xs
    | _ => none
  | _ => none
/-- a list or a tuple -/
def seqOf (h : MH) : MV → Option (List MV)
  | .tup xs => some xs
  | .row xs => some xs
  | v => listOf h v
def dictK (h : MH) : MV → Option (List (MK × MV))
  | .dK kvs => some kvs
  | .ref n => match h[n]? with
    | some (.dK kvs) => some kvs
    | some (.lkK kvs) => some kvs
    | _ => none
  | _ => none
def dictT (h : MH) : MV → Option (List (List MK × MV))
  | .dT kvs => some kvs
  | .ref n => match h[n]? with
    | some (.dT kvs) => some kvs
    | some (.lkT kvs) => some kvs
    | _ => none
  | _ => none
def keyOf : MV → Option MK
  | .int i => some (.inl i)
  | .str x => some (.inr x)
  | _ => none
def keysOf : List MV → Option (List MK)
  | [] => some []
  | v :: r => match keyOf v, keysOf r with
    | some k, some ks => some (k :: ks)
    | _, _ => none
def keyV : MK → MV
  | .inl i => .int i
  | .inr x => .str x
def getK {κ : Type} [DecidableEq κ] (kvs : List (κ × MV)) (k : κ) : Option MV := (kvs.find? fun kv => decide (kv.1 = k)).map (·.2)
def putM {κ : Type} [DecidableEq κ] (kvs : List (κ × MV)) (k : κ) (v : MV) : List (κ × MV) :=
  if kvs.any (fun kv => decide (kv.1 = k)) then kvs.map (fun kv => if kv.1 = k then (kv.1, v) else kv) else kvs ++ [(k, v)]
/-- what a dict has at a key: none where it is no dict, no key -/
def lookM (h : MH) (d k : MV) : Option (Option MV) := match k with
  | .tup ks => match dictT h d, keysOf ks with
    | some kvs, some kk => some (getK kvs kk)
    | _, _ => none
  | k => match dictK h d, keyOf k with
    | some kvs, some kk => some (getK kvs kk)
    | _, _ => none

/-! ### numbers -/
def opAdd (_ : MH) : MV → MV → Option MV
  | .int i, .int j => some (.int (i + j))
  | _, _ => none
def opSub (_ : MH) : MV → MV → Option MV
  | .int i, .int j => some (.int (i - j))
  | _, _ => none
def opMul (_ : MH) : MV → MV → Option MV
  | .int i, .int j => if i.natAbs.log2 + j.natAbs.log2 < 1000000 then some (.int (i * j)) else none
  | _, _ => none
def opDiv (_ : MH) : MV → MV → Option MV
  | .int i, .int j => if 0 < j ∧ j.natAbs.log2 < 9000 then some (.int (i / j)) else none
  | _, _ => none
def opMod (_ : MH) : MV → MV → Option MV
  | .int i, .int j => if 0 < j then some (.int (i % j)) else none
  | _, _ => none
def opPow (_ : MH) : MV → MV → Option MV
  | .int i, .int j => if 0 ≤ j ∧ j ≤ 1000000 ∧ i.natAbs < 2 ^ 64 then some (.int (i ^ j.toNat)) else none
  | _, _ => none
def opNeg (_ : MH) : MV → Option MV
  | .int i => some (.int (-i))
  | _ => none
def opLt (_ : MH) : MV → MV → Option MV
  | .int i, .int j => some (.bl (decide (i < j)))
  | _, _ => none
def opLe (_ : MH) : MV → MV → Option MV
  | .int i, .int j => some (.bl (decide (i ≤ j)))
  | _, _ => none
def opGt (_ : MH) : MV → MV → Option MV
  | .int i, .int j => some (.bl (decide (j < i)))
  | _, _ => none
def opGe (_ : MH) : MV → MV → Option MV
  | .int i, .int j => some (.bl (decide (j ≤ i)))
  | _, _ => none
/-! ### equality of data -/
def strFine (x : Str) : Bool := x.cps.all (fun c => decide (c < 1114112)) && decide (x.cps.size ≤ 16777216)
mutual
/-- == of data -/
def eqD : MV → MV → Bool
  | .non, .non => true
  | .bl a, .bl b => a == b
  | .bl a, .int j => (if a then 1 else 0) == j
  | .int i, .bl b => i == (if b then 1 else 0)
  | .int a, .int b => a == b
  | .str a, .str b => a == b
  | .tup xs, .tup ys => eqDs xs ys
  | .row xs, .row ys => eqDs xs ys
  | .row xs, .tup ys => eqDs xs ys
  | .tup xs, .row ys => eqDs xs ys
  | .lst xs, .lst ys => eqDs xs ys
  | _, _ => false
def eqDs : List MV → List MV → Bool
  | [], [] => true
  | x :: xs, y :: ys => eqD x y && eqDs xs ys
  | _, _ => false
end
mutual
/-- data of some depth: None, truths, numbers, texts, tuples, lists -/
def isD : Nat → MV → Bool
  | _, .non => true
  | _, .bl _ => true
  | _, .int _ => true
  | _, .str x => strFine x
  | n + 1, .tup xs => isDs n xs
  | n + 1, .row xs => isDs n xs
  | n + 1, .lst xs => isDs n xs
  | _, _ => false
def isDs : Nat → List MV → Bool
  | _, [] => true
  | n, x :: xs => isD n x && isDs n xs
end
def eqM (x y : MV) : Option Bool := if isD 60 x && isD 60 y then some (eqD x y) else none
/-- a cell of data read as a value -/
def rdM (h : MH) : MV → MV
  | .ref n => match h[n]? with
    | some (.lst xs) => .lst xs
    | _ => .ref n
  | v => v
def opEq0 (h : MH) (x y : MV) : Option MV := (eqM (rdM h x) (rdM h y)).map .bl
def opNe0 (h : MH) (x y : MV) : Option MV := (eqM (rdM h x) (rdM h y)).map fun k => .bl (!k)
/-- == of dicts of data -/
def eqKs (xs ys : List (MK × MV)) : Bool := xs.length == ys.length && xs.all fun kv => match getK ys kv.1 with
  | some y => eqD kv.2 y
  | none => false
def dataKs (xs : List (MK × MV)) : Bool := xs.all fun kv => isD 50 kv.2
def opEq (h : MH) (x y : MV) : Option MV := match dictK h x, dictK h y with
  | some xs, some ys => if dataKs xs && dataKs ys then some (.bl (eqKs xs ys)) else none
  | _, _ => opEq0 h x y
def opNe (h : MH) (x y : MV) : Option MV := match dictK h x, dictK h y with
  | some xs, some ys => if dataKs xs && dataKs ys then some (.bl (!eqKs xs ys)) else none
  | _, _ => opNe0 h x y
def opIsNon (_ : MH) (x : MV) (y : MV) : Option MV := match y with
  | .non => some (.bl (match x with | .non => true | _ => false))
  | _ => none
def opNotNon (_ : MH) (x : MV) (y : MV) : Option MV := match y with
  | .non => some (.bl (match x with | .non => false | _ => true))
  | _ => none
/-! ### x in y -/
def flatM : MV → Bool
  | .non => true | .bl _ => true | .int _ => true | .str _ => true
  | _ => false
def feqM : MV → MV → Bool
  | .non, .non => true
  | .bl a, .bl b => a == b
  | .bl a, .int b => (if a then 1 else 0) == b
  | .int a, .bl b => a == (if b then 1 else 0)
  | .int a, .int b => a == b
  | .str a, .str b => a == b
  | _, _ => false
def inSeq (x : MV) (xs : List MV) : Option Bool := if flatM x && xs.all flatM then some (xs.any fun y => feqM y x) else none
def opIn (h : MH) (x d : MV) : Option MV := match seqOf h d with
  | some xs => (inSeq x xs).map .bl
  | none => (lookM h d x).map fun o => .bl o.isSome
def opNotIn (h : MH) (x d : MV) : Option MV := match seqOf h d with
  | some xs => (inSeq x xs).map fun k => .bl (!k)
  | none => (lookM h d x).map fun o => .bl (!o.isSome)
/-! ### items, slices -/
def ixM (n : Nat) (i : Int) : Option Nat := if 0 ≤ i then (if i < n then some i.toNat else none) else if -(n : Int) ≤ i then some (i + n).toNat else none
def atM (xs : List MV) (i : Int) : Option MV := (ixM xs.length i).bind fun j => xs[j]?
/-- o[i] -/
def opIx (h : MH) (d k : MV) : Option MV := match seqOf h d, k with
  | some xs, .int i => atM xs i
  | some _, _ => none
  | none, k => match lookM h d k with
    | some (some v) => some v
    | _ => none
def sIxM (n d : Nat) : Option Int → Nat
  | none => d
  | some v => if v < 0 then (v + (n : Int)).toNat else min v.toNat n
def cutM (xs : List MV) (lo hi : Option Int) : List MV := (xs.drop (sIxM xs.length 0 lo)).take (sIxM xs.length xs.length hi - sIxM xs.length 0 lo)
abbrev XO := SM → MH → Option (Option Int × MH)
def xNoPart : XO := fun _ h => some (none, h)
def xPart (e : XE) : XO := fun s h => match e s h with
  | some (.int i, h1) => some (some i, h1)
  | _ => none
/-- xs[lo:hi] of a list: a fresh list -/
def xSlL (e : XE) (lo hi : XO) : XE := fun s h => match e s h with
  | none => none
  | some (v, h1) => match lo s h1 with
    | none => none
    | some (l, h2) => match hi s h2 with
      | none => none
      | some (u, h3) => match listOf h3 v with
        | none => none
        | some xs => some (.lst (cutM xs l u), h3)
/-- t[lo:hi] of a tuple -/
def xSlT (e : XE) (lo hi : XO) : XE := fun s h => match e s h with
  | none => none
  | some (v, h1) => match lo s h1 with
    | none => none
    | some (l, h2) => match hi s h2 with
      | none => none
      | some (u, h3) => match v with
        | .tup xs => if sIxM xs.length 0 l = 0 ∧ sIxM xs.length xs.length u = xs.length then some (.tup xs, h3) else some (.row (cutM xs l u), h3)
        | .row xs => some (.row (cutM xs l u), h3)
        | _ => none
/-! ### built-ins -/
def szLine : Nat := 16777216
def fLen (h : MH) : List MV → Option MV
  | [v] => match seqOf h v with
    | some xs => some (.int xs.length)
    | none => match dictK h v with
      | some kvs => some (.int kvs.length)
      | none => match dictT h v with
        | some kvs => some (.int kvs.length)
        | none => none
  | _ => none
def fAbs (_ : MH) : List MV → Option MV
  | [.int i] => some (.int (if i < 0 then -i else i))
  | _ => none
def fMax2 (_ : MH) : List MV → Option MV
  | [.int i, .int j] => some (.int (if j > i then j else i))
  | _ => none
def fMin2 (_ : MH) : List MV → Option MV
  | [.int i, .int j] => some (.int (if j < i then j else i))
  | _ => none
/-- a value's type by its name -/
def tyN (h : MH) : MV → Option String
  | .non => some "NoneType"
  | .bl _ => some "bool"
  | .int _ => some "int"
  | .str _ => some "str"
  | .tup _ => some "tuple"
  | .row _ => some "tuple"
  | .lst _ => some "list"
  | .scr _ => some "list"
  | .dK _ => some "dict"
  | .dT _ => none
  | .ref n => match h[n]? with
    | some (.lst _) => some "list"
    | some (.dK _) => some "dict"
    | some (.dT _) => some "dict"
    | some (.lkK _) => some "dict"
    | _ => none
def subTy (a t : String) : Bool := a == t || (a == "bool" && t == "int")
def fIsi (t : String) (h : MH) : List MV → Option MV
  | [v] => match tyN h v with
    | some a => some (.bl (subTy a t))
    | none => none
  | _ => none
/-- list(x) of a list or tuple -/
def fList (h : MH) : List MV → Option MV
  | [v] => (seqOf h v).map .lst
  | _ => none
/-- tuple(x) of a list or tuple -/
def fTuple (h : MH) : List MV → Option MV
  | [.tup xs] => some (.tup xs)
  | [v] => (seqOf h v).map .row
  | _ => none
def intsOf : List MV → Option (List Int)
  | [] => some []
  | .int k :: r => (intsOf r).map (k :: ·)
  | _ => none
/-! ### methods that write into a cell -/
def isLstC (h : MH) (n : Nat) : Bool := match h[n]? with
  | some (.lst _) => true
  | _ => false
def xAppend (o e : XE) : XE := fun s h => match o s h with
  | some (.ref n, h1) => if isLstC h1 n then match e s h1 with
    | some (v, h2) => match h2[n]? with
      | some (.lst xs) => if xs.length < szLine then some (.non, h2.set n (.lst (xs ++ [v]))) else none
      | _ => none
    | none => none
    else none
  | _ => none
def xExtend (o e : XE) : XE := fun s h => match o s h with
  | some (.ref n, h1) => if isLstC h1 n then match e s h1 with
    | some (.lst ys, h2) => match h2[n]? with
      | some (.lst xs) => if xs.length + ys.length ≤ szLine then some (.non, h2.set n (.lst (xs ++ ys))) else none
      | _ => none
    | _ => none
    else none
  | _ => none
/-- l.extend(t), a tuple -/
def xExtendT (o e : XE) : XE := fun s h => match o s h with
  | some (.ref n, h1) => if isLstC h1 n then match e s h1 with
    | some (.tup ys, h2) => match h2[n]? with
      | some (.lst xs) => if xs.length + ys.length ≤ szLine then some (.non, h2.set n (.lst (xs ++ ys))) else none
      | _ => none
    | _ => none
    else none
  | _ => none
def xPop (o : XE) : XE := fun s h => match o s h with
  | some (.ref n, h1) => match h1[n]? with
    | some (.lst xs) => match xs[xs.length - 1]? with
      | some y => some (y, h1.set n (.lst xs.dropLast))
      | none => none
    | _ => none
  | _ => none
def xPopAt (o i : XE) : XE := fun s h => match o s h with
  | some (.ref n, h1) => if isLstC h1 n then match i s h1 with
    | some (.int i, h2) => match h2[n]? with
      | some (.lst xs) => if -(2 ^ 62) ≤ i ∧ i < 2 ^ 62 then match ixM xs.length i with
        | some j => match xs[j]? with
          | some y => some (y, h2.set n (.lst (xs.eraseIdx j)))
          | none => none
        | none => none
        else none
      | _ => none
    | _ => none
    else none
  | _ => none

/-! ### statements -/
def sNext : XS := fun s h => some (.nx, s, h)
def sSeq (a b : XS) : XS := fun s h => match a s h with
  | some (.nx, s1, h1) => b s1 h1
  | r => r
def sExpr (e : XE) : XS := fun s h => match e s h with
  | none => none
  | some (_, h1) => some (.nx, s, h1)
def sRet (e : XE) : XS := fun s h => match e s h with
  | none => none
  | some (v, h1) => some (.rt v, s, h1)
def sRetN : XS := fun s h => some (.rt .non, s, h)
def sBk : XS := fun s h => some (.bk, s, h)
def sCt : XS := fun s h => some (.ct, s, h)
def sIf (c : XT) (a b : XS) : XS := fun s h => match c s h with
  | none => none
  | some (true, h1) => a s h1
  | some (false, h1) => b s h1
def gNm (i : Nat) : XG := fun v s h => some (s.set i (some v), h)
abbrev XGs := List MV → SM → MH → Option (SM × MH)
def gsNil : XGs := fun vs s h => match vs with
  | [] => some (s, h)
  | _ => none
def gsCons (g : XG) (r : XGs) : XGs := fun vs s h => match vs with
  | v :: vs => match g v s h with
    | none => none
    | some (s1, h1) => r vs s1 h1
  | [] => none
def gTp (n : Nat) (g : XGs) : XG := fun v s h => match v with
  | .tup xs => if xs.length = n then g xs s h else none
  | .row xs => if xs.length = n then g xs s h else none
  | _ => none
def sAsg (e : XE) (g : XG) : XS := fun s h => match e s h with
  | none => none
  | some (v, h1) => match g v s h1 with
    | none => none
    | some (s1, h2) => some (.nx, s1, h2)
abbrev sSet (i : Nat) (e : XE) : XS := sAsg e (gNm i)
/-- o[k] = v of a cell -/
def stM (h : MH) (o k v : MV) : Option MH := match o with
  | .ref n => match h[n]? with
    | some (.lst xs) => match k with
      | .int i => match ixM xs.length i with
        | some j => some (h.set n (.lst (xs.set j v)))
        | none => none
      | _ => none
    | some (.dK kvs) => match keyOf k with
      | some kk => if kvs.length < szLine then some (h.set n (.dK (putM kvs kk v))) else none
      | none => none
    | some (.dT kvs) => match k with
      | .tup ks => match keysOf ks with
        | some kk => if kvs.length < szLine then some (h.set n (.dT (putM kvs kk v))) else none
        | none => none
      | _ => none
    | _ => none
  | _ => none
/-- o[k] = e: first e, then o, then k -/
def sPut (o k e : XE) : XS := fun s h => match e s h with
  | none => none
  | some (v, h1) => match o s h1 with
    | none => none
    | some (d, h2) => match k s h2 with
      | none => none
      | some (kk, h3) => match stM h3 d kk v with
        | none => none
        | some h4 => some (.nx, s, h4)
/-- a, b = e1, e2 -/
def sPar (i j : Nat) (a b : XE) : XS := fun s h => match a s h with
  | none => none
  | some (v, h1) => match b s h1 with
    | none => none
    | some (w, h2) => some (.nx, (s.set i (some v)).set j (some w), h2)
/-- a, b, c = e1, e2, e3 -/
def sPar3 (i j l : Nat) (a b c : XE) : XS := fun s h => match a s h with
  | none => none
  | some (v, h1) => match b s h1 with
    | none => none
    | some (w, h2) => match c s h2 with
      | none => none
      | some (x, h3) => some (.nx, ((s.set i (some v)).set j (some w)).set l (some x), h3)
/-- while, at most so many turns -/
def whileGo (c : XT) (b : XS) : Nat → XS
  | 0, _, _ => none
  | n + 1, s, h => match c s h with
    | none => none
    | some (false, h1) => some (.nx, s, h1)
    | some (true, h1) => match b s h1 with
      | some (.nx, s2, h2) => whileGo c b n s2 h2
      | some (.ct, s2, h2) => whileGo c b n s2 h2
      | some (.bk, s2, h2) => some (.nx, s2, h2)
      | some (.rt v, s2, h2) => some (.rt v, s2, h2)
      | none => none
/-- what some number of turns answers -/
noncomputable def fuel {α : Type} (f : Nat → Option α) : Option α := open Classical in if hx : ∃ n r, f n = some r then some hx.choose_spec.choose else none
theorem fuel_at {α : Type} {f : Nat → Option α} {r : α} (e : fuel f = some r) : ∃ n, f n = some r := by
  unfold fuel at e
  split at e
  · rename_i hx
    cases e
    exact ⟨hx.choose, hx.choose_spec.choose_spec⟩
  · cases e
theorem fuel_of {α : Type} {f : Nat → Option α} (mono : ∀ n r, f n = some r → f (n + 1) = some r) {n : Nat} {r : α} (e : f n = some r) : fuel f = some r := by
  have up : ∀ (k m : Nat) (q : α), f m = some q → f (m + k) = some q := fun k => by
    induction k with
    | zero => exact fun _ _ h => h
    | succ k ih => exact fun m q h => mono _ _ (ih m q h)
  unfold fuel
  split
  · rename_i hx
    have h1 := up n hx.choose _ hx.choose_spec.choose_spec
    have h2 := up hx.choose n _ e
    rw [Nat.add_comm] at h1
    rw [h1] at h2
    exact h2
  · rename_i hx
    exact absurd ⟨n, r, e⟩ hx
noncomputable def sWhile (c : XT) (b : XS) : XS := fun s h => fuel fun n => whileGo c b n s h
/-- what is walked: values that stand still, or the list in a cell -/
inductive MI where
  | vals (xs : List MV) | cell (n : Nat)
abbrev XI := SM → MH → Option (MI × MH)
def forGo (g : XG) (b : XS) : List MV → XS
  | [], s, h => some (.nx, s, h)
  | x :: xs, s, h => match g x s h with
    | none => none
    | some (s1, h1) => match b s1 h1 with
      | some (.nx, s2, h2) => forGo g b xs s2 h2
      | some (.ct, s2, h2) => forGo g b xs s2 h2
      | some (.bk, s2, h2) => some (.nx, s2, h2)
      | some (.rt v, s2, h2) => some (.rt v, s2, h2)
      | none => none
def forCell (g : XG) (b : XS) (n : Nat) : Nat → Nat → XS
  | 0, _, _, _ => none
  | m + 1, i, s, h => match h[n]? with
    | some (.lst xs) => match xs[i]? with
      | none => some (.nx, s, h)
      | some x => match g x s h with
        | none => none
        | some (s1, h1) => match b s1 h1 with
          | some (.nx, s2, h2) => forCell g b n m (i + 1) s2 h2
          | some (.ct, s2, h2) => forCell g b n m (i + 1) s2 h2
          | some (.bk, s2, h2) => some (.nx, s2, h2)
          | some (.rt v, s2, h2) => some (.rt v, s2, h2)
          | none => none
    | _ => none
noncomputable def sFor (it : XI) (g : XG) (b : XS) : XS := fun s h => match it s h with
  | none => none
  | some (.vals xs, h1) => forGo g b xs s h1
  | some (.cell n, h1) => fuel fun t => forCell g b n t 0 s h1
/-- a list, a tuple that is walked -/
def iSeq (e : XE) : XI := fun s h => match e s h with
  | some (.ref n, h1) => match h1[n]? with
    | some (.lst _) => some (.cell n, h1)
    | _ => none
  | some (v, h1) => match seqOf h1 v with
    | some xs => some (.vals xs, h1)
    | none => none
  | none => none
def rngM (lo : Int) (n : Nat) : List MV := (List.range n).map fun i => .int (lo + (i : Nat))
def iRange1 (e : XE) : XI := fun s h => match e s h with
  | some (.int j, h1) => if -(2 ^ 62) ≤ j ∧ j < 2 ^ 62 then some (.vals (rngM 0 j.toNat), h1) else none
  | _ => none
def iRange2 (e f : XE) : XI := fun s h => match e s h with
  | some (.int i, h1) => match f s h1 with
    | some (.int j, h2) => if (-(2 ^ 62) ≤ i ∧ i < 2 ^ 62 ∧ -(2 ^ 62) ≤ j ∧ j < 2 ^ 62) then some (.vals (rngM i (j - i).toNat), h2) else none
    | _ => none
  | _ => none
/-- a comprehension's turns: the list made so far -/
def lcGo (g : XG) (c : XT) (e : XE) : List MV → List MV → SM → MH → Option (List MV × MH)
  | acc, [], _, h => some (acc, h)
  | acc, x :: xs, s, h => match g x s h with
    | none => none
    | some (s1, h1) => match c s1 h1 with
      | none => none
      | some (false, h2) => lcGo g c e acc xs s h2
      | some (true, h2) => match e s1 h2 with
        | none => none
        | some (v, h3) => if acc.length < szLine then lcGo g c e (acc ++ [v]) xs s h3 else none
def lcCell (g : XG) (c : XT) (e : XE) (n : Nat) : Nat → Nat → List MV → SM → MH → Option (List MV × MH)
  | 0, _, _, _, _ => none
  | m + 1, i, acc, s, h => match h[n]? with
    | some (.lst xs) => match xs[i]? with
      | none => some (acc, h)
      | some x => match g x s h with
        | none => none
        | some (s1, h1) => match c s1 h1 with
          | none => none
          | some (false, h2) => lcCell g c e n m (i + 1) acc s h2
          | some (true, h2) => match e s1 h2 with
            | none => none
            | some (v, h3) => if acc.length < szLine then lcCell g c e n m (i + 1) (acc ++ [v]) s h3 else none
    | _ => none
def wipeM (s : SM) : List Nat → SM
  | [] => s
  | v :: vs => (wipeM s vs).set v none
def cYes : XT := fun _ h => some (true, h)
/-- a comprehension over values that stand still -/
noncomputable def xLc (it : XI) (g : XG) (c : XT) (e : XE) (own : List Nat) : XE := fun s h => match it s h with
  | some (.vals xs, h1) => match lcGo g c e [] xs (wipeM s own) h1 with
    | some (ys, h2) => some (.lst ys, h2)
    | none => none
  | some (.cell n, h1) => match fuel fun t => lcCell g c e n t 0 [] (wipeM s own) h1 with
    | some (ys, h2) => some (.lst ys, h2)
    | none => none
  | none => none
def sBegin (n : Nat) (vs : List MV) : SM := vs.map some ++ List.replicate (n - vs.length) none
/-- a def: how many slots, its body -/
def runDef (n : Nat) (b : XS) : Fn := fun vs h => match b (sBegin n vs) h with
  | some (.rt v, _, h1) => some (v, h1)
  | some (.nx, _, h1) => some (.non, h1)
  | _ => none
/-! ### more operations -/
/-- a list that is no script -/
def lstC (h : MH) : MV → Option (List MV)
  | .lst xs => some xs
  | .ref n => match h[n]? with
    | some (.lst xs) => some xs
    | _ => none
  | _ => none
def opCat (h : MH) (x y : MV) : Option MV := match lstC h x, lstC h y with
  | some xs, some ys => if xs.length + ys.length ≤ szLine then some (.lst (xs ++ ys)) else none
  | _, _ => none
abbrev xCat (a b : XE) : XE := xOp opCat a b
/-- a tuple's members -/
def tupV : MV → Option (List MV)
  | .tup xs => some xs
  | .row xs => some xs
  | _ => none
def opCatT (_ : MH) : MV → MV → Option MV
  | x, y => match tupV x, tupV y with
    | some xs, some ys => if xs.length + ys.length ≤ szLine then some (if xs.isEmpty then y else if ys.isEmpty then x else .row (xs ++ ys)) else none
    | _, _ => none
/-- the first place, of a list that is not written again -/
def lstV : MV → Option (List MV)
  | .lst xs => some xs
  | _ => none
def opIndexL0 (_ : MH) (d y : MV) : Option MV := match lstV d with
  | some xs => if flatM y && xs.all flatM then (xs.findIdx? fun z => feqM z y).map fun j => .int (j : Nat) else none
  | none => none
def opIndexR (xs : List MV) (y : MV) : Option MV := match intsOf xs, y with
  | some ns, .int k => if k ∈ ns then some (.int (ns.idxOf k : Nat)) else none
  | _, _ => none
def opIndexL (h : MH) (d y : MV) : Option MV := match d with
  | .row xs => opIndexR xs y
  | d => opIndexL0 h d y
/-- list(d.keys()), sorted(d.keys()) -/
def fKeys (h : MH) (v : MV) : Option MV := (dictK h v).map fun kvs => .lst (kvs.map fun kv => keyV kv.1)
def sortI (ns : List Int) : List Int := ns.mergeSort fun x y => decide (x ≤ y)
def fKeysS (h : MH) (v : MV) : Option MV := match dictK h v with
  | some kvs => (intsOf (kvs.map fun kv => keyV kv.1)).map fun ns => .lst ((sortI ns).map .int)
  | none => none
/-- dict([(k, v), ..]) -/
def pairsK : List MV → Option (List (MK × MV))
  | [] => some []
  | x :: xs => match x with
    | .tup [k, v] => match keyOf k, pairsK xs with
      | some kk, some r => some ((kk, v) :: r)
      | _, _ => none
    | _ => none
/-- sorted(xs), ints, or a list of pairs of ints -/
def pairV (p : Int × Int) : MV := .tup [.int p.1, .int p.2]
def pairsI : List MV → Option (List (Int × Int))
  | [] => some []
  | x :: xs => match x with
    | .tup [.int a, .int b] => (pairsI xs).map ((a, b) :: ·)
    | _ => none
def lexLe (p q : Int × Int) : Bool := decide (p.1 < q.1) || (decide (p.1 = q.1) && decide (p.2 ≤ q.2))
def sortP (ps : List (Int × Int)) : List (Int × Int) := ps.mergeSort lexLe
def fSorted (h : MH) : List MV → Option MV
  | [v] => match seqOf h v with
    | some xs => match intsOf xs with
      | some ns => some (.lst ((sortI ns).map .int))
      | none => match listOf h v with
        | some ys => (pairsI ys).map fun ps => .lst ((sortP ps).map pairV)
        | none => none
    | none => none
  | _ => none
/-- {k: v, ..} -/
def xPairs : List (XE × XE) → SM → MH → Option (List (MK × MV) × MH)
  | [], _, h => some ([], h)
  | (a, b) :: r, s, h => match a s h with
    | none => none
    | some (x, h1) => match b s h1 with
      | none => none
      | some (y, h2) => match keyOf x with
        | none => none
        | some k => match xPairs r s h2 with
          | none => none
          | some (ps, h3) => some ((k, y) :: ps, h3)
def mergeM (kvs more : List (MK × MV)) : List (MK × MV) := more.foldl (fun acc kv => putM acc kv.1 kv.2) kvs
def fDictP (h : MH) : List MV → Option MV
  | [v] => match listOf h v with
    | some xs => (pairsK xs).map fun kvs => .dK (mergeM [] kvs)
    | none => none
  | _ => none
def xDisp (ps : List (XE × XE)) : XE := fun s h => match xPairs ps s h with
  | none => none
  | some (kvs, h1) => if kvs.length ≤ 15 then some (.dK (mergeM [] kvs), h1) else none
/-- d.update(e), both dicts -/
def xUpdate (o e : XE) : XE := fun s h => match o s h with
  | some (.ref n, h1) => match h1[n]? with
    | some (.dK _) => match e s h1 with
      | some (.dK more, h2) => match h2[n]? with
        | some (.dK kvs) => if kvs.length + more.length ≤ szLine then some (.non, h2.set n (.dK (mergeM kvs more))) else none
        | _ => none
      | _ => none
    | _ => none
  | _ => none
/-- for k in d.keys(), d in slot n, a dict that is not written again -/
def sForK (n : Nat) (g : XG) (b : XS) : XS := fun s h => match s[n]? with
  | some (some (.dK kvs)) => forGo g b (kvs.map fun kv => keyV kv.1) s h
  | some (some (.ref m)) => match h[m]? with
    | some (.dK kvs) => match forGo g b (kvs.map fun kv => keyV kv.1) s (h.set m (.lkK kvs)) with
      | some (f, s', h') => match h'[m]? with
        | some (.lkK kvs') => some (f, s', h'.set m (.dK kvs'))
        | _ => none
      | none => none
    | _ => none
  | _ => none
/-- a, b, c = a list -/
def gLp (n : Nat) (g : XGs) : XG := fun v s h => match listOf h v with
  | some xs => if xs.length = n then g xs s h else none
  | none => none
/-- x is True -/
def opIsBl (_ : MH) : MV → MV → Option MV
  | .bl a, .bl b => some (.bl (decide (a = b)))
  | _, _ => none
def opNotBl (_ : MH) : MV → MV → Option MV
  | .bl a, .bl b => some (.bl (!decide (a = b)))
  | _, _ => none
/-- tuple(d.keys()) -/
def fKeysT (h : MH) (v : MV) : Option MV := (dictK h v).map fun kvs => .tup (kvs.map fun kv => keyV kv.1)
/-- t[::-1] -/
def opRevT (_ : MH) : MV → Option MV
  | .tup xs => some (.tup xs.reverse)
  | _ => none
/-- enumerate(t), a tuple -/
def enumM (k : Nat) : List MV → List MV
  | [] => []
  | x :: xs => .tup [.int (k : Nat), x] :: enumM (k + 1) xs
def iEnumT (e : XE) : XI := fun s h => match e s h with
  | some (.tup xs, h1) => some (.vals (enumM 0 xs), h1)
  | _ => none
/-- zip(xs, ys), lists of one length -/
def zipM (xs ys : List MV) : List MV := (xs.zip ys).map fun p => .tup [p.1, p.2]
def iZipL (e e2 : XE) : XI := fun s h => match e s h with
  | some (.lst xs, h1) => match e2 s h1 with
    | some (.lst ys, h2) => if xs.length = ys.length then some (.vals (zipM xs ys), h2) else none
    | _ => none
  | _ => none
/-- an item that is sorted by ints: (i, row) or a row, one at least -/
def keyZ : MV → Option (Bool × List Int)
  | .tup [.int a, .tup zs] => (intsOf zs).map fun r => (true, a :: r)
  | .tup [.int a, .row zs] => (intsOf zs).map fun r => (true, a :: r)
  | .tup (y :: ys) => (intsOf (y :: ys)).map fun r => (false, r)
  | .row (y :: ys) => (intsOf (y :: ys)).map fun r => (false, r)
  | _ => none
def keysZ (f : Bool) : List MV → Option (List (List Int))
  | [] => some []
  | x :: xs => match keyZ x, keysZ f xs with
    | some (g, k), some ks => if g = f then some (k :: ks) else none
    | _, _ => none
/-- enumerate(xs), a list -/
def iEnumL (e : XE) : XI := fun s h => match e s h with
  | some (.lst xs, h1) => some (.vals (enumM 0 xs), h1)
  | _ => none
/-! ### sorted by a lambda -/
/-- the cells at the law's start: the tables -/
def tabs0 (n : Nat) : MH := (List.range n).map MC.tab
/-! ### what a def's function does, told to its callers: the new cells are forgotten, what was in them is told as values -/
mutual
/-- the raw value (the first) told as the second: n cells stand already; x: the cell that is told as a fresh one, if any -/
def Frz (h : MH) (n x : Nat) : MV → MV → Prop
  | u, .non => u = .non
  | u, .bl b => u = .bl b
  | u, .int i => u = .int i
  | u, .str s => u = .str s
  | u, .scr s => u = .scr s
  | u, .ref m => u = .ref m ∧ m < n
  | u, .tup ys => ∃ xs, u = .tup xs ∧ Frzs h n x xs ys
  | u, .row ys => ∃ xs, u = .row xs ∧ Frzs h n x xs ys
  | u, .lst ys => (∃ xs, u = .lst xs ∧ Frzs h n x xs ys) ∨ ∃ m xs, u = .ref m ∧ n ≤ m ∧ m ≠ x ∧ h[m]? = some (.lst xs) ∧ Frzs h n x xs ys
  | u, .dK ys => (∃ xs, u = .dK xs ∧ Frzk h n x xs ys) ∨ ∃ m xs, u = .ref m ∧ n ≤ m ∧ m ≠ x ∧ h[m]? = some (.dK xs) ∧ Frzk h n x xs ys
  | u, .dT ys => (∃ xs, u = .dT xs ∧ Frzt h n x xs ys) ∨ ∃ m xs, u = .ref m ∧ n ≤ m ∧ m ≠ x ∧ h[m]? = some (.dT xs) ∧ Frzt h n x xs ys
def Frzs (h : MH) (n x : Nat) : List MV → List MV → Prop
  | us, [] => us = []
  | us, y :: ys => ∃ u t, us = u :: t ∧ Frz h n x u y ∧ Frzs h n x t ys
def Frzk (h : MH) (n x : Nat) : List (MK × MV) → List (MK × MV) → Prop
  | us, [] => us = []
  | us, (k, y) :: ys => ∃ u t, us = (k, u) :: t ∧ Frz h n x u y ∧ Frzk h n x t ys
def Frzt (h : MH) (n x : Nat) : List (List MK × MV) → List (List MK × MV) → Prop
  | us, [] => us = []
  | us, (k, y) :: ys => ∃ u t, us = (k, u) :: t ∧ Frz h n x u y ∧ Frzt h n x t ys
end
def CFrz (h : MH) (n x : Nat) : MC → MC → Prop
  | .lst us, .lst ys => Frzs h n x us ys
  | .dK us, .dK ys => Frzk h n x us ys
  | .dT us, .dT ys => Frzt h n x us ys
  | .lkK us, .lkK ys => Frzk h n x us ys
  | .lkT us, .lkT ys => Frzt h n x us ys
  | _, _ => False
/-- the cells that stood, behind the call -/
def CelOK (h h2 h' : MH) (x : Nat) : Prop := h'.length = h.length ∧ h.length ≤ h2.length ∧ ∀ (i : Nat) (c : MC), h'[i]? = some c → (h2[i]? = some c ∧ h[i]? = some c) ∨ ∃ c2, h2[i]? = some c2 ∧ CFrz h2 h.length x c2 c
/-- g may be told as: at these arguments it hands back v and leaves the cells h' -/
def FrzOK (g : Fn) (args : List MV) (h : MH) (v : MV) (h' : MH) : Prop := ∃ v2 h2, g args h = some (v2, h2) ∧ CelOK h h2 h' h2.length ∧ Frz h2 h.length h2.length v2 v
/-- .. a fresh list or dict -/
def FrzF (g : Fn) (args : List MV) (h : MH) (v : MV) (h' : MH) : Prop := ∃ m c h2, g args h = some (.ref m, h2) ∧ h.length ≤ m ∧ h2[m]? = some c ∧ CelOK h h2 h' m ∧ match c, v with
  | .lst us, .lst ys => Frzs h2 h.length m us ys
  | .dK us, .dK ys => Frzk h2 h.length m us ys
  | .dT us, .dT ys => Frzt h2 h.length m us ys
  | _, _ => False
/-! ### told by what they do -/
mutual
/-- no cell is named -/
def plainV : MV → Bool
  | .ref _ => false
  | .tup xs => plainL xs
  | .row xs => plainL xs
  | .lst xs => plainL xs
  | .dK kvs => plainK kvs
  | .dT kvs => plainT kvs
  | _ => true
def plainL : List MV → Bool
  | [] => true
  | x :: xs => plainV x && plainL xs
def plainK : List (MK × MV) → Bool
  | [] => true
  | (_, x) :: xs => plainV x && plainK xs
def plainT : List (List MK × MV) → Bool
  | [] => true
  | (_, x) :: xs => plainV x && plainT xs
end
def plainC : MC → Bool
  | .lst xs => plainL xs
  | .dK xs => plainK xs
  | .dT xs => plainT xs
  | .lkK xs => plainK xs
  | .lkT xs => plainT xs
  | .tab _ => false
def Keeps (h h2 : MH) : Prop := h.length ≤ h2.length ∧ ∀ (i : Nat) (c : MC), i < h.length → h2[i]? = some c → h[i]? = some c ∨ plainC c = true
/-- a def that hands back a plain value -/
noncomputable def toldV (g : Fn) : Fn := open Classical in fun args h => match g args h with
  | some (v, h2) => if plainV v = true ∧ Keeps h h2 then some (v, h2.take h.length) else none
  | none => none
/-- .. a new list or dict of plain values -/
noncomputable def toldF (g : Fn) : Fn := open Classical in fun args h => match g args h with
  | some (.ref m, h2) => if h.length ≤ m ∧ Keeps h h2 then match h2[m]? with
    | some (.lst xs) => if plainL xs = true then some (.lst xs, h2.take h.length) else none
    | some (.dK xs) => if plainK xs = true then some (.dK xs, h2.take h.length) else none
    | some (.dT xs) => if plainT xs = true then some (.dT xs, h2.take h.length) else none
    | _ => none
    else none
  | _ => none
end Ew
end

section
set_option linter.all false
/-! EwSA: more operations of the small machine. -/
namespace Ew
open PySem (Str)
/-- reversed(x), a list or a tuple, walked -/
def revV : MV → Option (List MV)
  | .lst xs => some xs
  | .tup xs => some xs
  | .row xs => some xs
  | _ => none
def iRev (e : XE) : XI := fun s h => match e s h with
  | some (v, h1) => match revV v with
    | some xs => some (.vals xs.reverse, h1)
    | none => none
  | none => none
/-- xs[::-1], a list -/
def opRevLst (h : MH) (v : MV) : Option MV := (listOf h v).map fun xs => .lst xs.reverse
/-- a op b op' c -/
def xChain (f f' : MH → MV → MV → Option MV) (a b c : XE) : XE := fun s h => match a s h with
  | none => none
  | some (x, h1) => match b s h1 with
    | none => none
    | some (y, h2) => match f h2 x y with
      | some (.bl true) => match c s h2 with
        | none => none
        | some (z, h3) => match f' h3 y z with
          | none => none
          | some v => some (v, h3)
      | some (.bl false) => some (.bl false, h2)
      | _ => none
/-- d.pop(k), the key is there -/
def dropM (kvs : List (MK × MV)) (k : MK) : List (MK × MV) := kvs.filter fun kv => decide (kv.1 ≠ k)
end Ew
end

section
set_option Elab.async false
set_option linter.all false
set_option maxRecDepth 100000
set_option maxHeartbeats 4000000
/-! EwB: the hand layer's readings of the small machine EwS. -/
namespace Ew
open PySem PySem.Spec PyProof.Rows L2
/-- the tables of the defs that make lambdas: where they stand, what the lambdas are called -/
class Tabs where
  adr : Nat → Addr
  nm : Nat → Str
variable [Tabs]

/-! ### what a value of the machine stands for -/
/-- r: the cells' addresses; w: addresses that are withheld (lists that are being made) -/
def Out (r w : List Addr) (a : Addr) : Prop := a ∉ r ∧ a ∉ w
def TupAt (r w : List Addr) (H : Hp) (a : Addr) (us : List V) : Prop := Out r w a ∧ H a = some (.tup us)
/-- a tuple that has no dict -/
def RowAt (r w : List Addr) (H : Hp) (a : Addr) (us : List V) : Prop := Out r w a ∧ ∃ o : Obj, o.cls = .type "tuple" ∧ o.dict = none ∧ H a = some (.frz o (.tup us))
/-- the script, should it stand in the written part -/
def KScr (K : PySem.W.Frag) (a : Addr) (us : List V) : Prop := ∃ (o : Obj) (its : Array Value) (n : Nat), K.lookup a = some o ∧ o.cls = .type "list" ∧ o.dict = none ∧ o.data = .seq its n ∧ its.size ≤ sizeLine ∧ Vals us its.toList
section
variable (K : PySem.W.Frag)
mutual
def VR (r w : List Addr) (H : Hp) : MV → V → Prop
  | .non, u => u = .non
  | .bl b, u => u = .bl b
  | .int i, u => u = .int i
  | .str x, u => u = .str x
  | .ref n, u => ∃ a, u = .ref a ∧ r[n]? = some a
  | .tup xs, u => ∃ a us, u = .ref a ∧ TupAt r w H a us ∧ VRs r w H xs us
  | .row xs, u => ∃ a us, u = .ref a ∧ RowAt r w H a us ∧ VRs r w H xs us
  | .lst xs, u => ∃ a us, u = .ref a ∧ Out r w a ∧ H a = some (.lst us) ∧ VRs r w H xs us
  | .scr xs, u => ∃ a, u = .ref a ∧ ((Out r w a ∧ Rd H a (.lst (xs.map V.int))) ∨ KScr K a (xs.map V.int))
  | .dK kvs, u => ∃ a us, u = .ref a ∧ Out r w a ∧ Rd H a (.dK us) ∧ VRk r w H kvs us
  | .dT kvs, u => ∃ a us, u = .ref a ∧ Out r w a ∧ Rd H a (.dT us) ∧ VRt r w H kvs us
def VRs (r w : List Addr) (H : Hp) : List MV → List V → Prop
  | [], us => us = []
  | x :: xs, us => ∃ u t, us = u :: t ∧ VR r w H x u ∧ VRs r w H xs t
def VRk (r w : List Addr) (H : Hp) : List (MK × MV) → List (Key × V) → Prop
  | [], us => us = []
  | (k, x) :: xs, us => ∃ u t, us = (k, u) :: t ∧ VR r w H x u ∧ VRk r w H xs t
def VRt (r w : List Addr) (H : Hp) : List (List MK × MV) → List (List Key × V) → Prop
  | [], us => us = []
  | (k, x) :: xs, us => ∃ u t, us = (k, u) :: t ∧ VR r w H x u ∧ VRt r w H xs t
end
/-- a table: each code object that it tells bears the name q -/
def TabC (r w : List Addr) (H : Hp) (a : Addr) (q : Str) : Prop := ∃ ps : Array Value, H a = some (.tbl ps) ∧ TriplesOk ps.toList ∧ ∀ (pos : Pos) (cv : Value), codeAmong pos ps.toList = some cv → ∃ c, cv = .ref c ∧ Out r w c ∧ H c = some (LamX.CodeO c q)
/-- what stands in a cell -/
def CRel (r w : List Addr) (H : Hp) (a : Addr) : MC → Prop
  | .lst xs => ∃ us, H a = some (.lst us) ∧ VRs K r w H xs us
  | .dK kvs => ∃ us, H a = some (.dK us) ∧ VRk K r w H kvs us
  | .dT kvs => ∃ us, H a = some (.dT us) ∧ VRt K r w H kvs us
  | .lkK kvs => ∃ o us, H a = some (.frz o (.dK us)) ∧ VRk K r w H kvs us
  | .lkT kvs => ∃ o us, H a = some (.frz o (.dT us)) ∧ VRt K r w H kvs us
  | .tab n => a = Tabs.adr n ∧ TabC r w H a (Tabs.nm n)
structure Rel (r w : List Addr) (h : MH) (H : Hp) : Prop where
  len : r.length = h.length
  nd : r.Nodup
  at_ : ∀ (n : Nat) (a : Addr) (c : MC), r[n]? = some a → h[n]? = some c → CRel K r w H a c
  wh : ∀ d ∈ w, d ∉ r ∧ ∃ o, H d = some o ∧ ∀ us, o ≠ HO.tup us
/-- the slots -/
def SR (r w : List Addr) (H : Hp) (s : SM) (z : L2.St) : Prop := s.length = z.length ∧ ∀ (i : Nat) (v : MV), s[i]? = some (some v) → ∃ u, z[i]? = some (some u) ∧ VR K r w H v u
end
/-- o still stands at a, up to a dict's lock -/
def Kp (H' : Hp) (a : Addr) (o : HO) : Prop := H' a = some o ∨ (∃ od kvs, o = .dK kvs ∧ H' a = some (.frz od (.dK kvs))) ∨ (∃ od kvs, o = .frz od (.dK kvs) ∧ H' a = some (.dK kvs)) ∨
  (∃ od kvs, o = .dT kvs ∧ H' a = some (.frz od (.dT kvs))) ∨ (∃ od kvs, o = .frz od (.dT kvs) ∧ H' a = some (.dT kvs))
theorem Kp.lst {H' : Hp} {a : Addr} {xs : List V} (h : Kp H' a (.lst xs)) : H' a = some (.lst xs) := by
  rcases h with h | ⟨_, _, e, _⟩ | ⟨_, _, e, _⟩ | ⟨_, _, e, _⟩ | ⟨_, _, e, _⟩
  · exact h
  all_goals cases e
theorem Kp.tup {H' : Hp} {a : Addr} {xs : List V} (h : Kp H' a (.tup xs)) : H' a = some (.tup xs) := by
  rcases h with h | ⟨_, _, e, _⟩ | ⟨_, _, e, _⟩ | ⟨_, _, e, _⟩ | ⟨_, _, e, _⟩
  · exact h
  all_goals cases e
theorem Kp.row {H' : Hp} {a : Addr} {o : Obj} {xs : List V} (h : Kp H' a (.frz o (.tup xs))) : H' a = some (.frz o (.tup xs)) := by
  rcases h with h | ⟨_, _, e, _⟩ | ⟨_, _, e, _⟩ | ⟨_, _, e, _⟩ | ⟨_, _, e, _⟩
  · exact h
  all_goals cases e
theorem Kp.ext {H' : Hp} {a : Addr} {f : Heap → Prop} (h : Kp H' a (.ext f)) : H' a = some (.ext f) := by
  rcases h with h | ⟨_, _, e, _⟩ | ⟨_, _, e, _⟩ | ⟨_, _, e, _⟩ | ⟨_, _, e, _⟩
  · exact h
  all_goals cases e
theorem Kp.scr {H' : Hp} {a : Addr} {o : Obj} {xs : List V} (h : Kp H' a (.frz o (.lst xs))) : H' a = some (.frz o (.lst xs)) := by
  rcases h with h | ⟨_, _, e, _⟩ | ⟨_, _, e, _⟩ | ⟨_, _, e, _⟩ | ⟨_, _, e, _⟩
  · exact h
  all_goals cases e
theorem Kp.dK {H H' : Hp} {a : Addr} {kvs : List (Key × V)} (h : ∀ o, H a = some o → Kp H' a o) (r : Rd H a (.dK kvs)) : Rd H' a (.dK kvs) := by
  rcases r with r | ⟨o, r⟩
  · rcases h _ r with h | ⟨od, _, e, h⟩ | ⟨_, _, e, _⟩ | ⟨_, _, e, _⟩ | ⟨_, _, e, _⟩
    · exact .inl h
    · cases e; exact .inr ⟨od, h⟩
    all_goals cases e
  · rcases h _ r with h | ⟨od, _, e, h⟩ | ⟨_, _, e, h⟩ | ⟨_, _, e, _⟩ | ⟨_, _, e, _⟩
    · exact .inr ⟨o, h⟩
    · cases e
    · cases e; exact .inl h
    all_goals cases e
theorem Kp.dT {H H' : Hp} {a : Addr} {kvs : List (List Key × V)} (h : ∀ o, H a = some o → Kp H' a o) (r : Rd H a (.dT kvs)) : Rd H' a (.dT kvs) := by
  rcases r with r | ⟨o, r⟩
  · rcases h _ r with h | ⟨_, _, e, _⟩ | ⟨_, _, e, _⟩ | ⟨od, _, e, h⟩ | ⟨_, _, e, _⟩
    · exact .inl h
    · cases e
    · cases e
    · cases e; exact .inr ⟨od, h⟩
    · cases e
  · rcases h _ r with h | ⟨_, _, e, _⟩ | ⟨_, _, e, _⟩ | ⟨_, _, e, _⟩ | ⟨_, _, e, h⟩
    · exact .inr ⟨o, h⟩
    · cases e
    · cases e
    · cases e
    · cases e; exact .inl h
/-- what values lean on is kept -/
structure Stp (r w : List Addr) (H : Hp) (r' w' : List Addr) (H' : Hp) : Prop where
  ix : ∀ (n : Nat) (a : Addr), r[n]? = some a → r'[n]? = some a
  keep : ∀ a o, Out r w a → H a = some o → Out r' w' a ∧ Kp H' a o
/-- what is kept from one state to a later one: the cells get more, by new addresses; what is no cell stays -/
structure Fwd (r : List Addr) (H : Hp) (r' : List Addr) (H' : Hp) : Prop where
  ext : ∃ ps, r' = r ++ ps ∧ ∀ p ∈ ps, H p = none
  keep : ∀ a o, a ∉ r → H a = some o → H' a = some o
  frz : ∀ a o u, H a = some (.frz o u) → H' a = some (.frz o u)
theorem Fwd.refl (r : List Addr) (H : Hp) : Fwd r H r H := ⟨⟨[], by simp, fun _ h => nomatch h⟩, fun _ _ _ h => h, fun _ _ _ h => h⟩
theorem Fwd.nin {r r' : List Addr} {H H' : Hp} (F : Fwd r H r' H') {a : Addr} {o : HO} (h : a ∉ r) (e : H a = some o) : a ∉ r' := by
  obtain ⟨ps, rfl, hp⟩ := F.ext
  intro hm
  rcases List.mem_append.mp hm with hm | hm
  · exact h hm
  · rw [hp a hm] at e; cases e
theorem Fwd.at_ {r r' : List Addr} {H H' : Hp} (F : Fwd r H r' H') {n : Nat} {a : Addr} (h : r[n]? = some a) : r'[n]? = some a := by
  obtain ⟨ps, rfl, hp⟩ := F.ext
  rw [List.getElem?_append_left (by have := (List.getElem?_eq_some_iff.mp h).1; exact this)]
  exact h
theorem Fwd.stp {r r' w : List Addr} {H H' : Hp} (F : Fwd r H r' H') : Stp r w H r' w H' := ⟨fun n a h => F.at_ h, fun a o n e => ⟨⟨F.nin n.1 e, n.2⟩, .inl (F.keep a o n.1 e)⟩⟩
section
variable {K : PySem.W.Frag} {r r' r2 w w' : List Addr} {H H' H2 : Hp}
theorem TupAt.map (F : Stp r w H r' w' H') {a : Addr} {us : List V} (h : TupAt r w H a us) : TupAt r' w' H' a us := ⟨(F.keep _ _ h.1 h.2).1, (F.keep _ _ h.1 h.2).2.tup⟩
theorem RowAt.map (F : Stp r w H r' w' H') {a : Addr} {us : List V} (h : RowAt r w H a us) : RowAt r' w' H' a us := by
  obtain ⟨n, o, c, d, h⟩ := h
  exact ⟨(F.keep _ _ n h).1, o, c, d, (F.keep _ _ n h).2.row⟩
theorem RowAt.sq {K : PySem.W.Frag} {a : Addr} {us : List V} (h : RowAt r w H a us) : SqT K H a us := by
  obtain ⟨_, o, _, _, h⟩ := h
  exact .inl (.inr ⟨o, h⟩)
theorem TupAt.sq {K : PySem.W.Frag} {a : Addr} {us : List V} (h : TupAt r w H a us) : SqT K H a us := .inl (.inl h.2)
mutual
theorem VR.map (F : Stp r w H r' w' H') : ∀ (v : MV) (u : V), VR K r w H v u → VR K r' w' H' v u
  | .non, u, h => by simpa [VR] using h
  | .bl b, u, h => by simpa [VR] using h
  | .int i, u, h => by simpa [VR] using h
  | .str x, u, h => by simpa [VR] using h
  | .ref n, u, h => by
    simp only [VR] at h ⊢
    obtain ⟨a, e, h⟩ := h
    exact ⟨a, e, F.ix _ _ h⟩
  | .tup xs, u, h => by
    simp only [VR] at h ⊢
    obtain ⟨a, us, e, h, q⟩ := h
    exact ⟨a, us, e, h.map F, VRs.map F xs us q⟩
  | .row xs, u, h => by
    simp only [VR] at h ⊢
    obtain ⟨a, us, e, h, q⟩ := h
    exact ⟨a, us, e, h.map F, VRs.map F xs us q⟩
  | .lst xs, u, h => by
    simp only [VR] at h ⊢
    obtain ⟨a, us, e, n, h, q⟩ := h
    exact ⟨a, us, e, (F.keep _ _ n h).1, (F.keep _ _ n h).2.lst, VRs.map F xs us q⟩
  | .scr xs, u, h => by
    simp only [VR] at h ⊢
    obtain ⟨a, e, h⟩ := h
    rcases h with ⟨n, h | ⟨o, h⟩⟩ | h
    · exact ⟨a, e, .inl ⟨(F.keep _ _ n h).1, .inl (F.keep _ _ n h).2.lst⟩⟩
    · exact ⟨a, e, .inl ⟨(F.keep _ _ n h).1, .inr ⟨o, (F.keep _ _ n h).2.scr⟩⟩⟩
    · exact ⟨a, e, .inr h⟩
  | .dK xs, u, h => by
    simp only [VR] at h ⊢
    obtain ⟨a, us, e, n, h, q⟩ := h
    have no : Out r' w' a := by
      rcases h with h | ⟨o, h⟩
      · exact (F.keep _ _ n h).1
      · exact (F.keep _ _ n h).1
    exact ⟨a, us, e, no, Kp.dK (fun o z => (F.keep _ _ n z).2) h, VRk.map F xs us q⟩
  | .dT xs, u, h => by
    simp only [VR] at h ⊢
    obtain ⟨a, us, e, n, h, q⟩ := h
    have no : Out r' w' a := by
      rcases h with h | ⟨o, h⟩
      · exact (F.keep _ _ n h).1
      · exact (F.keep _ _ n h).1
    exact ⟨a, us, e, no, Kp.dT (fun o z => (F.keep _ _ n z).2) h, VRt.map F xs us q⟩
theorem VRs.map (F : Stp r w H r' w' H') : ∀ (v : List MV) (u : List V), VRs K r w H v u → VRs K r' w' H' v u
  | [], u, h => by simpa [VRs] using h
  | x :: xs, u, h => by
    simp only [VRs] at h ⊢
    obtain ⟨a, t, e, h, q⟩ := h
    exact ⟨a, t, e, VR.map F x a h, VRs.map F xs t q⟩
theorem VRk.map (F : Stp r w H r' w' H') : ∀ (v : List (MK × MV)) (u : List (Key × V)), VRk K r w H v u → VRk K r' w' H' v u
  | [], u, h => by simpa [VRk] using h
  | (k, x) :: xs, u, h => by
    simp only [VRk] at h ⊢
    obtain ⟨a, t, e, h, q⟩ := h
    exact ⟨a, t, e, VR.map F x a h, VRk.map F xs t q⟩
theorem VRt.map (F : Stp r w H r' w' H') : ∀ (v : List (List MK × MV)) (u : List (List Key × V)), VRt K r w H v u → VRt K r' w' H' v u
  | [], u, h => by simpa [VRt] using h
  | (k, x) :: xs, u, h => by
    simp only [VRt] at h ⊢
    obtain ⟨a, t, e, h, q⟩ := h
    exact ⟨a, t, e, VR.map F x a h, VRt.map F xs t q⟩
end
theorem VR.fwd (F : Fwd r H r' H') (v : MV) (u : V) (h : VR K r w H v u) : VR K r' w H' v u := VR.map F.stp v u h
theorem VRs.fwd (F : Fwd r H r' H') (v : List MV) (u : List V) (h : VRs K r w H v u) : VRs K r' w H' v u := VRs.map F.stp v u h
theorem TabC.map (F : Stp r w H r' w' H') {a : Addr} {q : Str} (e : H' a = H a) (h : TabC r w H a q) : TabC r' w' H' a q := by
  obtain ⟨ps, h1, h2, h3⟩ := h
  refine ⟨ps, e.trans h1, h2, fun pos cv hc => ?_⟩
  obtain ⟨c, rfl, n, hc⟩ := h3 pos cv hc
  exact ⟨c, rfl, (F.keep _ _ n hc).1, (F.keep _ _ n hc).2.ext⟩
theorem CRel.map (F : Stp r w H r' w' H') {a : Addr} {c : MC} (e : H' a = H a) (h : CRel K r w H a c) : CRel K r' w' H' a c := by
  cases c <;> simp only [CRel] at h ⊢
  · obtain ⟨us, h, q⟩ := h; exact ⟨us, e.trans h, VRs.map F _ _ q⟩
  · obtain ⟨us, h, q⟩ := h; exact ⟨us, e.trans h, VRk.map F _ _ q⟩
  · obtain ⟨us, h, q⟩ := h; exact ⟨us, e.trans h, VRt.map F _ _ q⟩
  · obtain ⟨o, us, h, q⟩ := h; exact ⟨o, us, e.trans h, VRk.map F _ _ q⟩
  · obtain ⟨o, us, h, q⟩ := h; exact ⟨o, us, e.trans h, VRt.map F _ _ q⟩
  · exact ⟨h.1, h.2.map F e⟩
theorem CRel.there {a : Addr} {c : MC} (h : CRel K r w H a c) : ∃ o, H a = some o := by
  cases c <;> simp only [CRel] at h
  · obtain ⟨us, z, _⟩ := h; exact ⟨_, z⟩
  · obtain ⟨us, z, _⟩ := h; exact ⟨_, z⟩
  · obtain ⟨us, z, _⟩ := h; exact ⟨_, z⟩
  · obtain ⟨o, us, z, _⟩ := h; exact ⟨_, z⟩
  · obtain ⟨o, us, z, _⟩ := h; exact ⟨_, z⟩
  · obtain ⟨_, ps, z, _⟩ := h; exact ⟨_, z⟩
theorem CRel.ntup {a : Addr} {c : MC} (h : CRel K r w H a c) : ∃ o, H a = some o ∧ ∀ us, o ≠ HO.tup us := by
  cases c <;> simp only [CRel] at h
  · obtain ⟨us, z, _⟩ := h; exact ⟨_, z, fun _ e => by cases e⟩
  · obtain ⟨us, z, _⟩ := h; exact ⟨_, z, fun _ e => by cases e⟩
  · obtain ⟨us, z, _⟩ := h; exact ⟨_, z, fun _ e => by cases e⟩
  · obtain ⟨o, us, z, _⟩ := h; exact ⟨_, z, fun _ e => by cases e⟩
  · obtain ⟨o, us, z, _⟩ := h; exact ⟨_, z, fun _ e => by cases e⟩
  · obtain ⟨_, ps, z, _⟩ := h; exact ⟨_, z, fun _ e => by cases e⟩
theorem SR.map (F : Stp r w H r' w' H') {s : SM} {z : L2.St} (h : SR K r w H s z) : SR K r' w' H' s z :=
  ⟨h.1, fun i v e => let ⟨u, e1, e2⟩ := h.2 i v e; ⟨u, e1, VR.map F v u e2⟩⟩
theorem SR.fwd (F : Fwd r H r' H') {s : SM} {z : L2.St} (h : SR K r w H s z) : SR K r' w H' s z := h.map F.stp
theorem Rel.there {h : MH} (R : Rel K r w h H) {a : Addr} (hm : a ∈ r) : ∃ o, H a = some o := by
  obtain ⟨n, hn⟩ := List.getElem?_of_mem hm
  have hl : n < h.length := by rw [← R.len]; exact (List.getElem?_eq_some_iff.mp hn).1
  exact (R.at_ n a h[n] hn (List.getElem?_eq_getElem hl)).there
theorem Rel.nin {h : MH} (R : Rel K r w h H) {p : Addr} (hp : H p = none) : p ∉ r := fun hm => by
  obtain ⟨u, e⟩ := R.there hm
  rw [hp] at e; cases e
theorem Rel.ninw {h : MH} (R : Rel K r w h H) {p : Addr} (hp : H p = none) : p ∉ w := fun hm => by
  obtain ⟨_, u, e, _⟩ := R.wh p hm
  rw [hp] at e; cases e
theorem Fwd.trans (F : Fwd r H r' H') (G : Fwd r' H' r2 H2) (hr : ∀ p, H' p = none → H p = none) : Fwd r H r2 H2 := by
  obtain ⟨ps, rfl, hp⟩ := F.ext
  obtain ⟨qs, rfl, hq⟩ := G.ext
  refine ⟨⟨ps ++ qs, by simp, fun p hm => ?_⟩, fun a o n e => G.keep a o (F.nin n e) (F.keep a o n e), fun a o u e => G.frz a o u (F.frz a o u e)⟩
  rcases List.mem_append.mp hm with hm | hm
  · exact hp p hm
  · exact hr p (hq p hm)
/-- where the cells stand, what is free now was free -/
theorem Fwd.free {h' : MH} (F : Fwd r H r' H') (R' : Rel K r' w h' H') (p : Addr) (e : H' p = none) : H p = none := by
  cases q : H p with
  | none => rfl
  | some o =>
    by_cases hm : p ∈ r
    · obtain ⟨n, hn⟩ := List.getElem?_of_mem hm
      obtain ⟨u, z⟩ := R'.there (List.mem_of_getElem? (F.at_ hn))
      rw [e] at z; cases z
    · rw [F.keep p o hm q] at e; cases e
theorem Fwd.tr {h' : MH} (F : Fwd r H r' H') (R' : Rel K r' w h' H') (G : Fwd r' H' r2 H2) : Fwd r H r2 H2 := F.trans G (F.free R')
/-- a new object, no cell -/
theorem Fwd.new (r : List Addr) {p : Addr} {o : HO} (hp : H p = none) : Fwd r H r (upd H p o) :=
  ⟨⟨[], by simp, fun _ h => nomatch h⟩, fun a u _ e => by rw [upd_ne (ne_of_none e hp)]; exact e, fun a o u e => by rw [upd_ne (ne_of_none e hp)]; exact e⟩
theorem Rel.new {h : MH} (R : Rel K r w h H) {p : Addr} {o : HO} (hp : H p = none) : Rel K r w h (upd H p o) :=
  ⟨R.len, R.nd, fun n a c hn hc => (R.at_ n a c hn hc).map (Fwd.new r hp).stp (by
    obtain ⟨u, e⟩ := R.there (List.mem_of_getElem? hn)
    exact upd_ne (ne_of_none e hp)), fun d hd => by
    obtain ⟨n, u, e, nt⟩ := R.wh d hd
    exact ⟨n, u, (upd_ne (ne_of_none e hp)).trans e, nt⟩⟩
/-- a new object that is withheld -/
theorem Stp.hold {h : MH} (R : Rel K r w h H) {p : Addr} {o : HO} (hp : H p = none) : Stp r w H r (p :: w) (upd H p o) :=
  ⟨fun _ _ h => h, fun a u n e => by
    have ne : a ≠ p := ne_of_none e hp
    exact ⟨⟨n.1, fun hm => by rcases List.mem_cons.mp hm with z | z; exact ne z; exact n.2 z⟩, .inl ((upd_ne ne).trans e)⟩⟩
theorem Rel.hold {h : MH} (R : Rel K r w h H) {p : Addr} {o : HO} (hp : H p = none) (nt : ∀ us, o ≠ HO.tup us := by intro _ z; cases z) : Rel K r (p :: w) h (upd H p o) :=
  ⟨R.len, R.nd, fun n a c hn hc => (R.at_ n a c hn hc).map (Stp.hold R hp) (by
    obtain ⟨u, e⟩ := R.there (List.mem_of_getElem? hn)
    exact upd_ne (ne_of_none e hp)), fun d hd => by
    rcases List.mem_cons.mp hd with rfl | hd
    · exact ⟨R.nin hp, o, upd_same, nt⟩
    · obtain ⟨n, u, e, nt⟩ := R.wh d hd
      exact ⟨n, u, (upd_ne (ne_of_none e hp)).trans e, nt⟩⟩
/-- what was withheld is let go -/
theorem Stp.drop {p : Addr} : Stp r (p :: w) H r w H := ⟨fun _ _ h => h, fun a o n e => ⟨⟨n.1, fun z => n.2 (List.mem_cons_of_mem _ z)⟩, .inl e⟩⟩
theorem Rel.drop {h : MH} {p : Addr} (R : Rel K r (p :: w) h H) : Rel K r w h H :=
  ⟨R.len, R.nd, fun n a c hn hc => (R.at_ n a c hn hc).map Stp.drop rfl, fun d hd => R.wh d (List.mem_cons_of_mem _ hd)⟩
/-- what was withheld becomes a cell -/
theorem Stp.cell {p : Addr} : Stp r (p :: w) H (r ++ [p]) w H :=
  ⟨fun n a h => by rw [List.getElem?_append_left (List.getElem?_eq_some_iff.mp h).1]; exact h, fun a o n e => ⟨⟨fun hm => by
    rcases List.mem_append.mp hm with z | z
    · exact n.1 z
    · exact n.2 (by rw [List.mem_singleton.mp z]; exact List.mem_cons_self), fun z => n.2 (List.mem_cons_of_mem _ z)⟩, .inl e⟩⟩
theorem Rel.cell {h : MH} {p : Addr} {c : MC} (R : Rel K r (p :: w) h H) (np : p ∉ w) (hc : CRel K r (p :: w) H p c) : Rel K (r ++ [p]) w (h ++ [c]) H := by
  have hpr : p ∉ r := (R.wh p List.mem_cons_self).1
  refine ⟨by simp [R.len], ?_, fun n a c' hn hc' => ?_, fun d hd => ?_⟩
  · exact List.nodup_append.mpr ⟨R.nd, by simp, fun a ha b hb => by rw [List.mem_singleton.mp hb]; rintro rfl; exact hpr ha⟩
  · by_cases hl : n < r.length
    · rw [List.getElem?_append_left hl] at hn
      rw [List.getElem?_append_left (by rw [← R.len]; exact hl)] at hc'
      exact (R.at_ n a c' hn hc').map Stp.cell rfl
    · have e1 : n = r.length := by
        have := (List.getElem?_eq_some_iff.mp hn).1
        rw [List.length_append] at this
        simp at this
        omega
      subst e1
      rw [List.getElem?_append_right (Nat.le_refl _)] at hn
      rw [R.len, List.getElem?_append_right (Nat.le_refl _)] at hc'
      simp at hn hc'
      subst hn hc'
      exact hc.map Stp.cell rfl
  · obtain ⟨n, u⟩ := R.wh d (List.mem_cons_of_mem _ hd)
    refine ⟨fun hm => ?_, u⟩
    rcases List.mem_append.mp hm with z | z
    · exact n z
    · exact np (by rw [← List.mem_singleton.mp z]; exact hd)
/-- a cell is written -/
theorem Fwd.put {n : Nat} {a : Addr} (hn : r[n]? = some a) (o : HO) (nf : ∀ ob u, H a ≠ some (.frz ob u)) : Fwd r H r (upd H a o) :=
  ⟨⟨[], by simp, fun _ h => nomatch h⟩, fun b u nb e => by
    rw [upd_ne (fun z => nb (by rw [z]; exact List.mem_of_getElem? hn))]; exact e, fun b ob u e => by
    rw [upd_ne (fun z => nf ob u (by rw [← z]; exact e))]; exact e⟩
theorem Stp.put {n : Nat} {a : Addr} (hn : r[n]? = some a) (o : HO) : Stp r w H r w (upd H a o) :=
  ⟨fun _ _ h => h, fun b u nb e => ⟨nb, .inl (by rw [upd_ne (fun z => nb.1 (by rw [z]; exact List.mem_of_getElem? hn))]; exact e)⟩⟩
theorem Rel.put {h : MH} (R : Rel K r w h H) {n : Nat} {a : Addr} {o : HO} {c : MC} (hn : r[n]? = some a) (hc : CRel K r w (upd H a o) a c) : Rel K r w (h.set n c) (upd H a o) := by
  refine ⟨by simp [R.len], R.nd, fun m b c' hm hc' => ?_, fun d hd => ?_⟩
  · by_cases e : m = n
    · subst e
      rw [hn] at hm
      have hl : m < h.length := by rw [← R.len]; exact (List.getElem?_eq_some_iff.mp hn).1
      rw [List.getElem?_set_self hl] at hc'
      cases hm; cases hc'
      exact hc
    · rw [List.getElem?_set_ne (Ne.symm e)] at hc'
      refine (R.at_ m b c' hm hc').map (Stp.put hn o) (upd_ne fun z => e ?_)
      subst z
      exact (List.getElem?_inj (List.getElem?_eq_some_iff.mp hm).1 R.nd).mp (hm.trans hn.symm)
  · obtain ⟨n', u, e, nt⟩ := R.wh d hd
    exact ⟨n', u, (upd_ne fun z => n' (by rw [z]; exact List.mem_of_getElem? hn)).trans e, nt⟩
theorem VRs.length : ∀ {xs : List MV} {us : List V}, VRs K r w H xs us → xs.length = us.length
  | [], us, h => by simp only [VRs] at h; subst h; rfl
  | x :: xs, us, h => by
    simp only [VRs] at h
    obtain ⟨u, t, rfl, _, q⟩ := h
    simp [VRs.length q]
theorem VRs.get : ∀ {xs : List MV} {us : List V} {i : Nat} {x : MV}, VRs K r w H xs us → xs[i]? = some x → ∃ u, us[i]? = some u ∧ VR K r w H x u
  | [], us, i, x, h, e => by simp at e
  | y :: xs, us, 0, x, h, e => by
    simp only [VRs] at h
    obtain ⟨u, t, rfl, q, _⟩ := h
    simp at e; subst e
    exact ⟨u, rfl, q⟩
  | y :: xs, us, i + 1, x, h, e => by
    simp only [VRs] at h
    obtain ⟨u, t, rfl, _, q⟩ := h
    obtain ⟨w, e1, e2⟩ := VRs.get (i := i) q (by simpa using e)
    exact ⟨w, by simpa using e1, e2⟩
theorem VRs.back : ∀ {xs : List MV} {us : List V} {i : Nat} {u : V}, VRs K r w H xs us → us[i]? = some u → ∃ x, xs[i]? = some x ∧ VR K r w H x u
  | [], us, i, x, h, e => by simp only [VRs] at h; subst h; simp at e
  | y :: xs, us, 0, x, h, e => by
    simp only [VRs] at h
    obtain ⟨u, t, rfl, q, _⟩ := h
    simp at e; subst e
    exact ⟨y, rfl, q⟩
  | y :: xs, us, i + 1, x, h, e => by
    simp only [VRs] at h
    obtain ⟨u, t, rfl, _, q⟩ := h
    obtain ⟨w, e1, e2⟩ := VRs.back (i := i) q (by simpa using e)
    exact ⟨w, by simpa using e1, e2⟩
theorem VRs.append : ∀ {xs ys : List MV} {us ws : List V}, VRs K r w H xs us → VRs K r w H ys ws → VRs K r w H (xs ++ ys) (us ++ ws)
  | [], ys, us, ws, h, q => by simp only [VRs] at h; subst h; exact q
  | x :: xs, ys, us, ws, h, q => by
    simp only [VRs] at h
    obtain ⟨u, t, rfl, h1, h2⟩ := h
    simp only [List.cons_append, VRs]
    exact ⟨u, t ++ ws, rfl, h1, VRs.append h2 q⟩
theorem VRs.one {x : MV} {u : V} (h : VR K r w H x u) : VRs K r w H [x] [u] := by
  simp only [VRs]
  exact ⟨u, [], rfl, h, rfl⟩
theorem VRs.drop : ∀ {xs : List MV} {us : List V} (n : Nat), VRs K r w H xs us → VRs K r w H (xs.drop n) (us.drop n)
  | _, _, 0, h => h
  | [], us, n + 1, h => by simp only [VRs] at h; subst h; simp [VRs]
  | x :: xs, us, n + 1, h => by
    simp only [VRs] at h
    obtain ⟨u, t, rfl, _, q⟩ := h
    exact VRs.drop n q
theorem VRs.take : ∀ {xs : List MV} {us : List V} (n : Nat), VRs K r w H xs us → VRs K r w H (xs.take n) (us.take n)
  | _, _, 0, h => by simp [VRs]
  | [], us, n + 1, h => by simp only [VRs] at h; subst h; simp [VRs]
  | x :: xs, us, n + 1, h => by
    simp only [VRs] at h
    obtain ⟨u, t, rfl, h1, q⟩ := h
    simp only [List.take_succ_cons, VRs]
    exact ⟨u, t.take n, rfl, h1, VRs.take n q⟩
theorem VRs.eraseIdx : ∀ {xs : List MV} {us : List V} (n : Nat), VRs K r w H xs us → VRs K r w H (xs.eraseIdx n) (us.eraseIdx n)
  | [], us, n, h => by simp only [VRs] at h; subst h; simp [VRs]
  | x :: xs, us, 0, h => by
    simp only [VRs] at h
    obtain ⟨u, t, rfl, _, q⟩ := h
    simpa using q
  | x :: xs, us, n + 1, h => by
    simp only [VRs] at h
    obtain ⟨u, t, rfl, h1, q⟩ := h
    simp only [List.eraseIdx_cons_succ, VRs]
    exact ⟨u, t.eraseIdx n, rfl, h1, VRs.eraseIdx n q⟩
theorem VRs.set : ∀ {xs : List MV} {us : List V} (n : Nat) {x : MV} {u : V}, VRs K r w H xs us → VR K r w H x u → VRs K r w H (xs.set n x) (us.set n u)
  | [], us, n, _, _, h, _ => by simp only [VRs] at h; subst h; simp [VRs]
  | y :: xs, us, 0, x, u, h, hx => by
    simp only [VRs] at h
    obtain ⟨w, t, rfl, _, q⟩ := h
    simp only [List.set_cons_zero, VRs]
    exact ⟨u, t, rfl, hx, q⟩
  | y :: xs, us, n + 1, x, u, h, hx => by
    simp only [VRs] at h
    obtain ⟨w, t, rfl, h1, q⟩ := h
    simp only [List.set_cons_succ, VRs]
    exact ⟨w, t.set n u, rfl, h1, VRs.set n q hx⟩
theorem VRs.dropLast {xs : List MV} {us : List V} (h : VRs K r w H xs us) : VRs K r w H xs.dropLast us.dropLast := by
  rw [List.dropLast_eq_take, List.dropLast_eq_take, ← VRs.length h]
  exact VRs.take _ h
theorem VRs.ints : ∀ (ns : List Int), VRs K r w H (ns.map MV.int) (ns.map V.int)
  | [] => by simp [VRs]
  | n :: ns => by
    simp only [List.map_cons, VRs]
    exact ⟨_, _, rfl, by simp [VR], VRs.ints ns⟩
theorem VRs.at_ {xs : List MV} {us : List V} {i : Int} {x : MV} (h : VRs K r w H xs us) (e : atM xs i = some x) : ∃ u, atI us i = some u ∧ VR K r w H x u := by
  unfold atM at e
  cases q : ixM xs.length i with
  | none => simp [q] at e
  | some j =>
    simp only [q, Option.bind_some] at e
    obtain ⟨u, e1, e2⟩ := VRs.get h e
    refine ⟨u, ?_, e2⟩
    unfold atI
    rw [← VRs.length h]
    show (ixM xs.length i).bind _ = _
    rw [q]
    exact e1
theorem VRk.length : ∀ {xs : List (MK × MV)} {us : List (Key × V)}, VRk K r w H xs us → xs.length = us.length
  | [], us, h => by simp only [VRk] at h; subst h; rfl
  | (k, x) :: xs, us, h => by
    simp only [VRk] at h
    obtain ⟨u, t, rfl, _, q⟩ := h
    simp [VRk.length q]
theorem VRt.length : ∀ {xs : List (List MK × MV)} {us : List (List Key × V)}, VRt K r w H xs us → xs.length = us.length
  | [], us, h => by simp only [VRt] at h; subst h; rfl
  | (k, x) :: xs, us, h => by
    simp only [VRt] at h
    obtain ⟨u, t, rfl, _, q⟩ := h
    simp [VRt.length q]
theorem VRk.keys : ∀ {xs : List (MK × MV)} {us : List (Key × V)}, VRk K r w H xs us → us.map (·.1) = xs.map (·.1)
  | [], us, h => by simp only [VRk] at h; subst h; rfl
  | (k, x) :: xs, us, h => by
    simp only [VRk] at h
    obtain ⟨u, t, rfl, _, q⟩ := h
    simp [VRk.keys q]
theorem VRt.keys : ∀ {xs : List (List MK × MV)} {us : List (List Key × V)}, VRt K r w H xs us → us.map (·.1) = xs.map (·.1)
  | [], us, h => by simp only [VRt] at h; subst h; rfl
  | (k, x) :: xs, us, h => by
    simp only [VRt] at h
    obtain ⟨u, t, rfl, _, q⟩ := h
    simp [VRt.keys q]
/-- what a dict has at a key -/
theorem VRk.get (k : MK) : ∀ {xs : List (MK × MV)} {us : List (Key × V)}, VRk K r w H xs us → (getK xs k = none ∧ valV us k = none) ∨ ∃ x u, getK xs k = some x ∧ valV us k = some u ∧ VR K r w H x u
  | [], us, h => by simp only [VRk] at h; subst h; exact .inl ⟨rfl, rfl⟩
  | (k', x) :: xs, us, h => by
    simp only [VRk] at h
    obtain ⟨u, t, rfl, q1, q⟩ := h
    by_cases e : k' = k
    · subst e
      exact .inr ⟨x, u, by simp [getK], by simp [valV], q1⟩
    · have ih := VRk.get k q
      have e1 : getK ((k', x) :: xs) k = getK xs k := by simp [getK, List.find?_cons, e]
      have e2 : valV ((k', u) :: t) k = valV t k := by simp [valV, List.find?_cons, e]
      rw [e1, e2]
      exact ih
theorem VRt.get (k : List MK) : ∀ {xs : List (List MK × MV)} {us : List (List Key × V)}, VRt K r w H xs us → (getK xs k = none ∧ valV us k = none) ∨ ∃ x u, getK xs k = some x ∧ valV us k = some u ∧ VR K r w H x u
  | [], us, h => by simp only [VRt] at h; subst h; exact .inl ⟨rfl, rfl⟩
  | (k', x) :: xs, us, h => by
    simp only [VRt] at h
    obtain ⟨u, t, rfl, q1, q⟩ := h
    by_cases e : k' = k
    · subst e
      exact .inr ⟨x, u, by simp [getK], by simp [valV], q1⟩
    · have ih := VRt.get k q
      have e1 : getK ((k', x) :: xs) k = getK xs k := by simp [getK, List.find?_cons, e]
      have e2 : valV ((k', u) :: t) k = valV t k := by simp [valV, List.find?_cons, e]
      rw [e1, e2]
      exact ih
theorem VRk.app : ∀ {xs ys : List (MK × MV)} {us ws : List (Key × V)}, VRk K r w H xs us → VRk K r w H ys ws → VRk K r w H (xs ++ ys) (us ++ ws)
  | [], ys, us, ws, h, q => by simp only [VRk] at h; subst h; exact q
  | (k, x) :: xs, ys, us, ws, h, q => by
    simp only [VRk] at h
    obtain ⟨u, t, rfl, h1, h2⟩ := h
    simp only [List.cons_append, VRk]
    exact ⟨u, t ++ ws, rfl, h1, VRk.app h2 q⟩
theorem VRt.app : ∀ {xs ys : List (List MK × MV)} {us ws : List (List Key × V)}, VRt K r w H xs us → VRt K r w H ys ws → VRt K r w H (xs ++ ys) (us ++ ws)
  | [], ys, us, ws, h, q => by simp only [VRt] at h; subst h; exact q
  | (k, x) :: xs, ys, us, ws, h, q => by
    simp only [VRt] at h
    obtain ⟨u, t, rfl, h1, h2⟩ := h
    simp only [List.cons_append, VRt]
    exact ⟨u, t ++ ws, rfl, h1, VRt.app h2 q⟩
theorem VRk.rep (k : MK) {v : MV} {y : V} (hv : VR K r w H v y) : ∀ {xs : List (MK × MV)} {us : List (Key × V)}, VRk K r w H xs us → VRk K r w H (xs.map fun kv => if kv.1 = k then (kv.1, v) else kv) (us.map fun kv => if kv.1 = k then (kv.1, y) else kv)
  | [], us, h => by simp only [VRk] at h; subst h; simp [VRk]
  | (k', x) :: xs, us, h => by
    simp only [VRk] at h
    obtain ⟨u, t, rfl, q1, q⟩ := h
    have ih := VRk.rep k hv q
    by_cases e : k' = k
    · simp only [List.map_cons, e, if_true, VRk]
      exact ⟨y, _, rfl, hv, ih⟩
    · simp only [List.map_cons, e, if_false, VRk]
      exact ⟨u, _, rfl, q1, ih⟩
theorem VRt.rep (k : List MK) {v : MV} {y : V} (hv : VR K r w H v y) : ∀ {xs : List (List MK × MV)} {us : List (List Key × V)}, VRt K r w H xs us → VRt K r w H (xs.map fun kv => if kv.1 = k then (kv.1, v) else kv) (us.map fun kv => if kv.1 = k then (kv.1, y) else kv)
  | [], us, h => by simp only [VRt] at h; subst h; simp [VRt]
  | (k', x) :: xs, us, h => by
    simp only [VRt] at h
    obtain ⟨u, t, rfl, q1, q⟩ := h
    have ih := VRt.rep k hv q
    by_cases e : k' = k
    · simp only [List.map_cons, e, if_true, VRt]
      exact ⟨y, _, rfl, hv, ih⟩
    · simp only [List.map_cons, e, if_false, VRt]
      exact ⟨u, _, rfl, q1, ih⟩
theorem any_map_key {κ α β : Type} [DecidableEq κ] (k : κ) (xs : List (κ × α)) (us : List (κ × β)) (e : us.map (·.1) = xs.map (·.1)) : (us.any fun kv => decide (kv.1 = k)) = xs.any fun kv => decide (kv.1 = k) := by
  have h1 : (us.any fun kv => decide (kv.1 = k)) = (us.map (·.1)).any fun x => decide (x = k) := by rw [List.any_map]; rfl
  have h2 : (xs.any fun kv => decide (kv.1 = k)) = (xs.map (·.1)).any fun x => decide (x = k) := by rw [List.any_map]; rfl
  rw [h1, h2, e]
theorem VRk.put (k : MK) {v : MV} {y : V} (hv : VR K r w H v y) {xs : List (MK × MV)} {us : List (Key × V)} (h : VRk K r w H xs us) : VRk K r w H (putM xs k v) (putK us k y) := by
  unfold putM putK
  rw [any_map_key k xs us (VRk.keys h)]
  split
  · exact VRk.rep k hv h
  · refine VRk.app h ?_
    simp only [VRk]
    exact ⟨y, [], rfl, hv, rfl⟩
theorem VRt.put (k : List MK) {v : MV} {y : V} (hv : VR K r w H v y) {xs : List (List MK × MV)} {us : List (List Key × V)} (h : VRt K r w H xs us) : VRt K r w H (putM xs k v) (putK us k y) := by
  unfold putM putK
  rw [any_map_key k xs us (VRt.keys h)]
  split
  · exact VRt.rep k hv h
  · refine VRt.app h ?_
    simp only [VRt]
    exact ⟨y, [], rfl, hv, rfl⟩
theorem SR.set {s : SM} {z : L2.St} (h : SR K r w H s z) (i : Nat) {v : MV} {u : V} (hv : VR K r w H v u) : SR K r w H (s.set i (some v)) (z.set i (some u)) := by
  refine ⟨by simp [h.1], fun j w e => ?_⟩
  by_cases q : j = i
  · subst q
    have hl : j < s.length := by
      have := (List.getElem?_eq_some_iff.mp e).1
      simpa using this
    rw [List.getElem?_set_self hl] at e
    cases e
    rw [List.getElem?_set_self (by rw [← h.1]; exact hl)]
    exact ⟨u, rfl, hv⟩
  · rw [List.getElem?_set_ne (Ne.symm q)] at e ⊢
    exact h.2 j w e
end
end Ew
end

section
set_option Elab.async false
set_option linter.all false
set_option maxRecDepth 100000
set_option maxHeartbeats 4000000
/-! EwC: the rules of the small machine. -/
namespace Ew
open PySem PySem.Spec PyProof.Rows L2
variable [Tabs]

theorem PE.wk {X : Cx} {e : Expr} {t t' : TE} (h : PE X e t) (w : ∀ z H Q, t' z H Q → t z H Q) : PE X e t' := ⟨fun pins s z H Q I q => h.run pins s z H Q I (w z H Q q)⟩
theorem PT.wk {X : Cx} {e : Expr} {t t' : TT} (h : PT X e t) (w : ∀ z H Q, t' z H Q → t z H Q) : PT X e t' := ⟨fun pins s z H Q I q => h.run pins s z H Q I (w z H Q q)⟩
theorem PW.wk {X : Cx} {e : Expr} {t t' : TT} (h : PW X e t) (w : ∀ z H Q, t' z H Q → t z H Q) : PW X e t' := ⟨fun wh pins s z H Q I q => h.run wh pins s z H Q I (w z H Q q)⟩
theorem PA.wk {X : Cx} {es : List Expr} {t t' : TA} (h : PA X es t) (w : ∀ z H Q, t' z H Q → t z H Q) : PA X es t' := ⟨fun pos pins s z H Q I q => h.run pos pins s z H Q I (w z H Q q)⟩
theorem PS.wk {X : Cx} {st : Stmt} {t t' : TS} (h : PS X st t) (w : ∀ D z H, t' D z H → t D z H) : PS X st t' := ⟨fun pins s z H D I q => h.run pins s z H D I (w D z H q)⟩
theorem PSs.wk {X : Cx} {st : List Stmt} {t t' : TS} (h : PSs X st t) (w : ∀ D z H, t' D z H → t D z H) : PSs X st t' := ⟨fun pins s z H D I q => h.run pins s z H D I (w D z H q)⟩

/-! ### the readings -/
section
variable (K : PySem.W.Frag)
def Cont (r w : List Addr) (h' : MH) (H : Hp) (v : MV) (Q : VK) : Prop := ∀ r' u H', Fwd r H r' H' → Rel K r' w h' H' → VR K r' w H' v u → Q u H'
def ContS (r w : List Addr) (h' : MH) (H : Hp) (s' : SM) (Q : L2.St → Hp → Prop) : Prop := ∀ r' z' H', Fwd r H r' H' → Rel K r' w h' H' → SR K r' w H' s' z' → Q z' H'
def tM (m : XE) : TE := fun z H Q => ∃ r w s h v h', Rel K r w h H ∧ SR K r w H s z ∧ m s h = some (v, h') ∧ Cont K r w h' H v Q
def tT (m : XT) : TT := fun z H Q => ∃ r w s h v h', Rel K r w h H ∧ SR K r w H s z ∧ m s h = some (v, h') ∧ ∀ r' H', Fwd r H r' H' → Rel K r' w h' H' → Q v H'
def tA (m : XA) : TA := fun z H Q => ∃ r w s h vs h', Rel K r w h H ∧ SR K r w H s z ∧ m s h = some (vs, h') ∧ ∀ r' us H', Fwd r H r' H' → Rel K r' w h' H' → VRs K r' w H' vs us → Q us H'
/-- a fresh list or dict at p -/
def VF (r w : List Addr) (H : Hp) (v : MV) (p : Addr) : Prop := match v with
  | .lst xs => ∃ us, H p = some (.lst us) ∧ VRs K r w H xs us
  | .dK kvs => ∃ us, H p = some (.dK us) ∧ VRk K r w H kvs us
  | .dT kvs => ∃ us, H p = some (.dT us) ∧ VRt K r w H kvs us
  | _ => False
def ContF (r w : List Addr) (h' : MH) (H : Hp) (v : MV) (Q : VK) : Prop := ∀ r' p H', Fwd r H r' H' → H p = none → Rel K r' (p :: w) h' H' → VF K r' (p :: w) H' v p → Q (.ref p) H'
def tF (m : XE) : TE := fun z H Q => ∃ r w s h v h', Rel K r w h H ∧ SR K r w H s z ∧ m s h = some (v, h') ∧ ContF K r w h' H v Q
def EndS (r w : List Addr) (h' : MH) (H : Hp) (s' : SM) (D : Ends) : Fl → Prop
  | .nx => ContS K r w h' H s' D.nx
  | .bk => ContS K r w h' H s' D.bk
  | .ct => ContS K r w h' H s' D.ct
  | .rt v => Cont K r w h' H v D.rt
def tS (m : XS) : TS := fun D z H => ∃ r w s h f s' h', Rel K r w h H ∧ SR K r w H s z ∧ m s h = some (f, s', h') ∧ EndS K r w h' H s' D f
def tG (m : XG) : TG := fun u z H Q => ∃ r w s h v s' h', Rel K r w h H ∧ SR K r w H s z ∧ VR K r w H v u ∧ m v s h = some (s', h') ∧ ContS K r w h' H s' Q
def tGs (m : XGs) : TGs := fun us z H Q => ∃ r w s h vs s' h', Rel K r w h H ∧ SR K r w H s z ∧ VRs K r w H vs us ∧ m vs s h = some (s', h') ∧ ContS K r w h' H s' Q
def tO (m : XO) : TO := fun z H Q => ∃ r w s h v h', Rel K r w h H ∧ SR K r w H s z ∧ m s h = some (v, h') ∧ ∀ r' H', Fwd r H r' H' → Rel K r' w h' H' → Q v H'
end
abbrev ME (X : Cx) (e : Expr) (m : XE) : Prop := PE X e (tM X.K m)
abbrev MF (X : Cx) (e : Expr) (m : XE) : Prop := PE X e (tF X.K m)
abbrev MT (X : Cx) (e : Expr) (m : XT) : Prop := PT X e (tT X.K m)
abbrev MW (X : Cx) (e : Expr) (m : XT) : Prop := PW X e (tT X.K m)
structure MA (X : Cx) (es : List Expr) (m : XA) : Prop where
  pa : PA X es (tA X.K m)
  len : ∀ s h vs h', m s h = some (vs, h') → vs.length = es.length
abbrev MS (X : Cx) (st : Stmt) (m : XS) : Prop := PS X st (tS X.K m)
abbrev MSs (X : Cx) (st : List Stmt) (m : XS) : Prop := PSs X st (tS X.K m)
abbrev MG (X : Cx) (e : Expr) (m : XG) : Prop := PG X e (tG X.K m)
abbrev MGs (X : Cx) (es : List Expr) (m : XGs) : Prop := PGs X es (tGs X.K m)
abbrev MO (X : Cx) (e : Option Expr) (m : XO) : Prop := PO X e (tO X.K m)
section
variable {K : PySem.W.Frag} {r r' r1 w : List Addr} {H H' H1 : Hp} {h h' : MH}
theorem Cont.now {v : MV} {Q : VK} {u : V} (C : Cont K r w h H v Q) (R : Rel K r w h H) (q : VR K r w H v u) : Q u H := C r u H (Fwd.refl r H) R q
theorem Cont.fwd {v : MV} {Q : VK} {hh : MH} (C : Cont K r w h' H v Q) (F : Fwd r H r1 H1) (R1 : Rel K r1 w hh H1) : Cont K r1 w h' H1 v Q := fun r' u H' F' R' q => C r' u H' (F.tr R1 F') R' q
theorem ContS.now {s : SM} {Q : L2.St → Hp → Prop} {z : L2.St} (C : ContS K r w h H s Q) (R : Rel K r w h H) (q : SR K r w H s z) : Q z H := C r z H (Fwd.refl r H) R q
theorem ContS.fwd {s : SM} {Q : L2.St → Hp → Prop} {hh : MH} (C : ContS K r w h' H s Q) (F : Fwd r H r1 H1) (R1 : Rel K r1 w hh H1) : ContS K r1 w h' H1 s Q := fun r' u H' F' R' q => C r' u H' (F.tr R1 F') R' q
theorem ContF.fwd {v : MV} {Q : VK} {hh : MH} (C : ContF K r w h' H v Q) (F : Fwd r H r1 H1) (R1 : Rel K r1 w hh H1) : ContF K r1 w h' H1 v Q := fun r' p H' F' n R' q => C r' p H' (F.tr R1 F') (F.free R1 p n) R' q
theorem EndS.fwd {s : SM} {D : Ends} {f : Fl} {hh : MH} (C : EndS K r w h' H s D f) (F : Fwd r H r1 H1) (R1 : Rel K r1 w hh H1) : EndS K r1 w h' H1 s D f := by
  cases f <;> simp only [EndS] at C ⊢
  · exact ContS.fwd C F R1
  · exact Cont.fwd C F R1
  · exact ContS.fwd C F R1
  · exact ContS.fwd C F R1
theorem VF.vr {v : MV} {p : Addr} (R : Rel K r w h H) (np : Out r w p) (q : VF K r w H v p) : VR K r w H v (.ref p) := by
  cases v <;> simp only [VF] at q
  · obtain ⟨us, a, b⟩ := q
    simp only [VR]
    exact ⟨p, us, rfl, np, a, b⟩
  · obtain ⟨us, a, b⟩ := q
    simp only [VR]
    exact ⟨p, us, rfl, np, .inl a, b⟩
  · obtain ⟨us, a, b⟩ := q
    simp only [VR]
    exact ⟨p, us, rfl, np, .inl a, b⟩
theorem VF.map {r' w' : List Addr} (F : Stp r w H r' w' H') {v : MV} {p : Addr} (e : H' p = H p) (q : VF K r w H v p) : VF K r' w' H' v p := by
  cases v <;> simp only [VF] at q ⊢
  · obtain ⟨us, a, b⟩ := q
    exact ⟨us, e.trans a, VRs.map F _ _ b⟩
  · obtain ⟨us, a, b⟩ := q
    exact ⟨us, e.trans a, VRk.map F _ _ b⟩
  · obtain ⟨us, a, b⟩ := q
    exact ⟨us, e.trans a, VRt.map F _ _ b⟩
/-- a fresh list that was just laid -/
theorem ContF.lst {xs : List MV} {us : List V} {p : Addr} {Q : VK} (C : ContF K r w h H (.lst xs) Q) (R : Rel K r w h H) (hp : H p = none) (q : VRs K r w H xs us) : Q (.ref p) (upd H p (.lst us)) :=
  C r p _ (Fwd.new r hp) hp (R.hold hp) (by simp only [VF]; exact ⟨us, upd_same, VRs.map (Stp.hold R hp) _ _ q⟩)
theorem VR.newTup {xs : List MV} {us : List V} {p : Addr} (R : Rel K r w h H) (hp : H p = none) (q : VRs K r w H xs us) : VR K r w (upd H p (.tup us)) (.tup xs) (.ref p) := by
  simp only [VR]
  exact ⟨p, us, rfl, ⟨⟨R.nin hp, R.ninw hp⟩, upd_same⟩, VRs.fwd (Fwd.new r hp) _ _ q⟩
theorem Cont.tup {xs : List MV} {us : List V} {p : Addr} {Q : VK} (C : Cont K r w h H (.tup xs) Q) (R : Rel K r w h H) (hp : H p = none) (q : VRs K r w H xs us) : Q (.ref p) (upd H p (.tup us)) :=
  C r _ _ (Fwd.new r hp) (R.new hp) (VR.newTup R hp q)
theorem VR.newRow {xs : List MV} {us : List V} {p : Addr} {o : Obj} (hc : o.cls = .type "tuple") (hd : o.dict = none) (R : Rel K r w h H) (hp : H p = none) (q : VRs K r w H xs us) : VR K r w (upd H p (.frz o (.tup us))) (.row xs) (.ref p) := by
  simp only [VR]
  exact ⟨p, us, rfl, ⟨⟨R.nin hp, R.ninw hp⟩, o, hc, hd, upd_same⟩, VRs.fwd (Fwd.new r hp) _ _ q⟩
theorem Cont.row {xs : List MV} {us : List V} {p : Addr} {o : Obj} {Q : VK} (C : Cont K r w h H (.row xs) Q) (hc : o.cls = .type "tuple") (hd : o.dict = none) (R : Rel K r w h H) (hp : H p = none) (q : VRs K r w H xs us) : Q (.ref p) (upd H p (.frz o (.tup us))) :=
  C r _ _ (Fwd.new r hp) (R.new hp) (VR.newRow hc hd R hp q)
end

/-! ### expressions -/
section
variable {K : PySem.W.Frag} {X : Cx} {e a b c : Expr} {m ma mb mc : XE} {pos : Pos}
/-- a fresh thing as a value; as a cell -/
theorem MF.me (he : MF X e m) : ME X e m := PE.wk he fun z H Q ⟨r, w, s, h, v, h', R, S, e, C⟩ => ⟨r, w, s, h, v, h', R, S, e, fun r' p H' F n R' q => by
  refine C r' (.ref p) H' F R'.drop (VF.vr R'.drop ⟨(R'.wh p List.mem_cons_self).1, R.ninw n⟩ (VF.map Stp.drop rfl q))⟩
theorem me_box (he : MF X e m) : ME X e (xBox m) := PE.wk he fun z H Q ⟨r, w, s, h, v, h', R, S, e, C⟩ => by
  unfold xBox at e
  cases e1 : m s h with
  | none => simp [e1] at e
  | some p =>
    obtain ⟨y, h1⟩ := p
    simp only [e1] at e
    refine ⟨r, w, s, h, y, h1, R, S, e1, fun r' p H' F n R' q => ?_⟩
    have np : p ∉ w := R.ninw n
    have F2 : Fwd r H (r' ++ [p]) H' := by
      obtain ⟨⟨ps, rfl, hps⟩, k, fz⟩ := F
      exact ⟨⟨ps ++ [p], by simp, fun x hx => by
        rcases List.mem_append.mp hx with hx | hx
        · exact hps x hx
        · rw [List.mem_singleton.mp hx]; exact n⟩, k, fz⟩
    have V : VR X.K (r' ++ [p]) w H' (.ref h1.length) (.ref p) := by
      simp only [VR]
      exact ⟨p, rfl, by rw [← R'.len]; simp⟩
    cases y <;> simp only [VF] at q <;> simp only [boxM, Option.some.injEq, Prod.mk.injEq, reduceCtorEq] at e
    · obtain ⟨rfl, rfl⟩ := e
      exact C (r' ++ [p]) _ H' F2 (R'.cell np (c := .lst _) q) V
    · obtain ⟨rfl, rfl⟩ := e
      exact C (r' ++ [p]) _ H' F2 (R'.cell np (c := .dK _) q) V
    · obtain ⟨rfl, rfl⟩ := e
      exact C (r' ++ [p]) _ H' F2 (R'.cell np (c := .dT _) q) V
theorem me_var {i : Nat} {x : Str} (hN : X.N[i]? = some x := by rfl) (hv : Vis X.env.scope x := by first | exact Or.inl rfl | exact Or.inr (Or.inl rfl) | exact Or.inr (Or.inr rfl)) (hd : (x == ("__debug__" : Str)) = false := by decide +kernel)
    (hcd : (x == ("__classdict__" : Str)) = false := by decide +kernel) : ME X (.Name x pos) (xVar i) := PE.wk (pe_var hN hv hd hcd) fun z H Q ⟨r, w, s, h, v, h', R, S, e, C⟩ => by
  unfold xVar at e
  cases e1 : s[i]? with
  | none => simp [e1] at e
  | some o =>
    cases o with
    | none => simp [e1] at e
    | some y =>
      simp only [e1, Option.some.injEq, Prod.mk.injEq] at e
      obtain ⟨rfl, rfl⟩ := e
      obtain ⟨u, q1, q2⟩ := S.2 i y e1
      exact ⟨u, q1, C.now R q2⟩
theorem me_c {v : MV} {u : V} (he : PE X e (tC u)) (hv : ∀ (r w : List Addr) (H : Hp), VR X.K r w H v u) : ME X e (xC v) := PE.wk he fun z H Q ⟨r, w, s, h, v', h', R, S, e, C⟩ => by
  simp only [xC, Option.some.injEq, Prod.mk.injEq] at e
  obtain ⟨rfl, rfl⟩ := e
  exact C.now R (hv _ _ _)
theorem me_int {i : Int} {j : Nat} : ME X (.Constant (.int i) j pos) (xC (.int i)) := me_c pe_int fun _ _ _ => by simp [VR]
theorem me_bl {k : Bool} {j : Nat} : ME X (.Constant (.bool k) j pos) (xC (.bl k)) := me_c pe_bl fun _ _ _ => by simp [VR]
theorem me_non {j : Nat} : ME X (.Constant .none j pos) (xC .non) := me_c pe_non fun _ _ _ => by simp [VR]
/-- a module's number -/
theorem me_globI {x : Str} {i : Int} (hm : ∃ t, X.mg x = some (.int i t)) (hg : Gl X x := by rfl) (hd : (x == ("__debug__" : Str)) = false := by decide +kernel) : ME X (.Name x pos) (xC (.int i)) := by
  obtain ⟨t, hm⟩ := hm
  exact me_c (pe_glob hg hm (v := .int i) ⟨t, rfl⟩ hd) fun _ _ _ => by simp [VR]
/-- two expressions and what is made of their values -/
theorem bin_wk {f : MH → MV → MV → Option MV} {t : R2} (hr : ∀ r w h H x y v u1 u2 Q, Rel K r w h H → VR K r w H x u1 → VR K r w H y u2 → f h x y = some v → Cont K r w h H v Q → t u1 u2 H Q) :
    ∀ z H Q, tM K (xOp f ma mb) z H Q → tOp t (tM K ma) (tM K mb) z H Q := fun z H Q ⟨r, w, s, h, v, h', R, S, e, C⟩ => by
  unfold xOp at e
  cases e1 : ma s h with
  | none => simp [e1] at e
  | some p1 =>
    obtain ⟨x, h1⟩ := p1
    simp only [e1] at e
    cases e2 : mb s h1 with
    | none => simp [e2] at e
    | some p2 =>
      obtain ⟨y, h2⟩ := p2
      simp only [e2] at e
      cases e3 : f h2 x y with
      | none => simp [e3] at e
      | some v' =>
        simp only [e3, Option.some.injEq, Prod.mk.injEq] at e
        obtain ⟨rfl, rfl⟩ := e
        exact ⟨r, w, s, h, x, h1, R, S, e1, fun r1 u1 H1 F1 R1 V1 => ⟨r1, w, s, h1, y, h2, R1, S.fwd F1, e2, fun r2 u2 H2 F2 R2 V2 =>
          hr r2 w h2 H2 x y v' u1 u2 Q R2 (VR.fwd F2 _ _ V1) V2 e3 ((C.fwd F1 R1).fwd F2 R2)⟩⟩
theorem me_op {op : Operator} {f : MH → MV → MV → Option MV} {t : R2} (ho : OpR X (binaryOp op) t) (hr : ∀ r w h H x y v u1 u2 Q, Rel X.K r w h H → VR X.K r w H x u1 → VR X.K r w H y u2 → f h x y = some v → Cont X.K r w h H v Q → t u1 u2 H Q)
    (ha : ME X a ma) (hb : ME X b mb) : ME X (.BinOp a op b pos) (xOp f ma mb) := PE.wk (pe_op ho ha hb) (bin_wk hr)
/-- a truth as a test -/
theorem tB_wk : ∀ z H Q, tT K (xB m) z H Q → tM K m z H fun x H' => ∃ k, x = .bl k ∧ Q k H' := fun z H Q ⟨r, w, s, h, v, h', R, S, e, C⟩ => by
  unfold xB at e
  cases e1 : m s h with
  | none => simp [e1] at e
  | some p =>
    obtain ⟨y, h1⟩ := p
    cases y <;> simp only [e1, reduceCtorEq, Option.some.injEq, Prod.mk.injEq] at e
    obtain ⟨rfl, rfl⟩ := e
    exact ⟨r, w, s, h, _, h1, R, S, e1, fun r' u H' F R' q => by
      simp only [VR] at q
      exact ⟨_, q, C r' H' F R'⟩⟩
theorem c_cmp {op : CmpOp} {f : MH → MV → MV → Option MV} {t : R2} (ho : OpR X (compareOp op) t) (hr : ∀ r w h H x y v u1 u2 Q, Rel X.K r w h H → VR X.K r w H x u1 → VR X.K r w H y u2 → f h x y = some v → Cont X.K r w h H v Q → t u1 u2 H Q)
    (ha : ME X a ma) (hb : ME X b mb) (hm : behindInMarks op b = false) : ME X (.Compare a [op] [b] pos) (xOp f ma mb) ∧ MT X (.Compare a [op] [b] pos) (xB (xOp f ma mb)) :=
  ⟨PE.wk (pe_cmpR ho ha hb hm) (bin_wk hr), PT.wk (pt_cmpR ho ha hb hm) fun z H Q q => bin_wk hr z H _ (tB_wk z H Q q)⟩
/-- any other expression that gives a truth, as a test -/
theorem mt_val (he : ME X e m) (hs : ∀ whole, isTrue e X.env whole = (do let v ← whole; standAt e.pos; holding [v] (truthy v)) := by intro _; rfl) : MT X e (xB m) := PT.wk (pt_val he hs) tB_wk
theorem opAdd_i : ∀ h x y v, opAdd h x y = some v → ∃ i j, x = .int i ∧ y = .int j ∧ v = .int (i + j) := by
  intro h x y v e
  cases x <;> cases y <;> simp [opAdd] at e
  exact ⟨_, _, rfl, rfl, e.symm⟩
theorem opSub_i : ∀ h x y v, opSub h x y = some v → ∃ i j, x = .int i ∧ y = .int j ∧ v = .int (i - j) := by
  intro h x y v e
  cases x <;> cases y <;> simp [opSub] at e
  exact ⟨_, _, rfl, rfl, e.symm⟩
theorem opMul_i : ∀ h x y v, opMul h x y = some v → ∃ i j, x = .int i ∧ y = .int j ∧ CMulW i j ∧ v = .int (i * j) := by
  intro h x y v e
  cases x <;> cases y <;> simp [opMul] at e
  exact ⟨_, _, rfl, rfl, e.1, e.2.symm⟩
theorem opDiv_i : ∀ h x y v, opDiv h x y = some v → ∃ i j, x = .int i ∧ y = .int j ∧ CDivW i j ∧ v = .int (i / j) := by
  intro h x y v e
  cases x <;> cases y <;> simp [opDiv] at e
  exact ⟨_, _, rfl, rfl, e.1, e.2.symm⟩
theorem opMod_i : ∀ h x y v, opMod h x y = some v → ∃ i j, x = .int i ∧ y = .int j ∧ 0 < j ∧ v = .int (i % j) := by
  intro h x y v e
  cases x <;> cases y <;> simp [opMod] at e
  exact ⟨_, _, rfl, rfl, e.1, e.2.symm⟩
theorem opPow_i : ∀ h x y v, opPow h x y = some v → ∃ i j, x = .int i ∧ y = .int j ∧ CPow i j ∧ v = .int (i ^ j.toNat) := by
  intro h x y v e
  cases x <;> cases y <;> simp only [opPow, reduceCtorEq] at e
  split at e
  · rename_i hc
    simp at e
    exact ⟨_, _, rfl, rfl, hc, e.symm⟩
  · cases e
theorem opLt_i : ∀ h x y v, opLt h x y = some v → ∃ i j, x = .int i ∧ y = .int j ∧ v = .bl (decide (i < j)) := by
  intro h x y v e
  cases x <;> cases y <;> simp [opLt] at e
  exact ⟨_, _, rfl, rfl, e.symm⟩
theorem opGt_i : ∀ h x y v, opGt h x y = some v → ∃ i j, x = .int i ∧ y = .int j ∧ v = .bl (decide (j < i)) := by
  intro h x y v e
  cases x <;> cases y <;> simp [opGt] at e
  exact ⟨_, _, rfl, rfl, e.symm⟩
theorem opGe_i : ∀ h x y v, opGe h x y = some v → ∃ i j, x = .int i ∧ y = .int j ∧ v = .bl (decide (j ≤ i)) := by
  intro h x y v e
  cases x <;> cases y <;> simp [opGe] at e
  exact ⟨_, _, rfl, rfl, e.symm⟩
theorem me_add (ha : ME X a ma) (hb : ME X b mb) : ME X (.BinOp a .Add b pos) (xOp opAdd ma mb) := me_op op_add (fun r w h H x y v u1 u2 Q R V1 V2 e C => by
  obtain ⟨i, j, rfl, rfl, rfl⟩ := opAdd_i h x y v e
  simp only [VR] at V1 V2
  exact ⟨i, j, V1, V2, C.now R (by simp [VR])⟩) ha hb
theorem me_sub (ha : ME X a ma) (hb : ME X b mb) : ME X (.BinOp a .Sub b pos) (xOp opSub ma mb) := me_op op_sub (fun r w h H x y v u1 u2 Q R V1 V2 e C => by
  obtain ⟨i, j, rfl, rfl, rfl⟩ := opSub_i h x y v e
  simp only [VR] at V1 V2
  exact ⟨i, j, V1, V2, C.now R (by simp [VR])⟩) ha hb
theorem me_mul (ha : ME X a ma) (hb : ME X b mb) : ME X (.BinOp a .Mult b pos) (xOp opMul ma mb) := me_op op_mulW (fun r w h H x y v u1 u2 Q R V1 V2 e C => by
  obtain ⟨i, j, rfl, rfl, hc, rfl⟩ := opMul_i h x y v e
  simp only [VR] at V1 V2
  exact ⟨i, j, V1, V2, hc, C.now R (by simp [VR])⟩) ha hb
theorem me_div (ha : ME X a ma) (hb : ME X b mb) : ME X (.BinOp a .FloorDiv b pos) (xOp opDiv ma mb) := me_op op_fdivW (fun r w h H x y v u1 u2 Q R V1 V2 e C => by
  obtain ⟨i, j, rfl, rfl, hc, rfl⟩ := opDiv_i h x y v e
  simp only [VR] at V1 V2
  exact ⟨i, j, V1, V2, hc, C.now R (by simp [VR])⟩) ha hb
theorem me_mod (ha : ME X a ma) (hb : ME X b mb) : ME X (.BinOp a .Mod b pos) (xOp opMod ma mb) := me_op op_mod (fun r w h H x y v u1 u2 Q R V1 V2 e C => by
  obtain ⟨i, j, rfl, rfl, hc, rfl⟩ := opMod_i h x y v e
  simp only [VR] at V1 V2
  exact ⟨i, j, V1, V2, hc, C.now R (by simp [VR])⟩) ha hb
theorem me_pow (ha : ME X a ma) (hb : ME X b mb) : ME X (.BinOp a .Pow b pos) (xOp opPow ma mb) := me_op op_pow (fun r w h H x y v u1 u2 Q R V1 V2 e C => by
  obtain ⟨i, j, rfl, rfl, hc, rfl⟩ := opPow_i h x y v e
  simp only [VR] at V1 V2
  exact ⟨i, j, V1, V2, hc, C.now R (by simp [VR])⟩) ha hb
theorem c_lt (ha : ME X a ma) (hb : ME X b mb) : ME X (.Compare a [.Lt] [b] pos) (xOp opLt ma mb) ∧ MT X (.Compare a [.Lt] [b] pos) (xB (xOp opLt ma mb)) := c_cmp op_lt (fun r w h H x y v u1 u2 Q R V1 V2 e C => by
  obtain ⟨i, j, rfl, rfl, rfl⟩ := opLt_i h x y v e
  simp only [VR] at V1 V2
  exact ⟨i, j, V1, V2, C.now R (by simp [VR])⟩) ha hb (nomark _)
theorem c_gt (ha : ME X a ma) (hb : ME X b mb) : ME X (.Compare a [.Gt] [b] pos) (xOp opGt ma mb) ∧ MT X (.Compare a [.Gt] [b] pos) (xB (xOp opGt ma mb)) := c_cmp op_gt (fun r w h H x y v u1 u2 Q R V1 V2 e C => by
  obtain ⟨i, j, rfl, rfl, rfl⟩ := opGt_i h x y v e
  simp only [VR] at V1 V2
  exact ⟨i, j, V1, V2, C.now R (by simp [VR])⟩) ha hb (nomark _)
theorem c_ge (ha : ME X a ma) (hb : ME X b mb) : ME X (.Compare a [.GtE] [b] pos) (xOp opGe ma mb) ∧ MT X (.Compare a [.GtE] [b] pos) (xB (xOp opGe ma mb)) := c_cmp op_ge (fun r w h H x y v u1 u2 Q R V1 V2 e C => by
  obtain ⟨i, j, rfl, rfl, rfl⟩ := opGe_i h x y v e
  simp only [VR] at V1 V2
  exact ⟨i, j, V1, V2, C.now R (by simp [VR])⟩) ha hb (nomark _)
theorem c_isN (ha : ME X a ma) (hb : ME X b mb) : ME X (.Compare a [.Is] [b] pos) (xOp opIsNon ma mb) ∧ MT X (.Compare a [.Is] [b] pos) (xB (xOp opIsNon ma mb)) := c_cmp op_isN (fun r w h H x y v u1 u2 Q R V1 V2 e C => by
  cases y <;> simp only [opIsNon, reduceCtorEq, Option.some.injEq] at e
  subst e
  simp only [VR] at V2
  refine ⟨V2, C.now R ?_⟩
  cases x <;> simp only [VR] at V1 ⊢ <;> first | (subst V1; rfl) | (obtain ⟨p, q⟩ := V1; rw [q.1]; rfl) | (obtain ⟨p, us, q⟩ := V1; rw [q.1]; rfl)) ha hb (nomark _)
theorem c_notN (ha : ME X a ma) (hb : ME X b mb) : ME X (.Compare a [.IsNot] [b] pos) (xOp opNotNon ma mb) ∧ MT X (.Compare a [.IsNot] [b] pos) (xB (xOp opNotNon ma mb)) := c_cmp op_notN (fun r w h H x y v u1 u2 Q R V1 V2 e C => by
  cases y <;> simp only [opNotNon, reduceCtorEq, Option.some.injEq] at e
  subst e
  simp only [VR] at V2
  refine ⟨V2, C.now R ?_⟩
  cases x <;> simp only [VR] at V1 ⊢ <;> first | (subst V1; rfl) | (obtain ⟨p, q⟩ := V1; rw [q.1]; rfl) | (obtain ⟨p, us, q⟩ := V1; rw [q.1]; rfl)) ha hb (nomark _)
end
end Ew
end

section
set_option Elab.async false
set_option linter.all false
set_option maxRecDepth 100000
set_option maxHeartbeats 4000000
/-! EwD: more rules of the small machine. -/
namespace Ew
open PySem PySem.Spec PyProof.Rows L2
variable [Tabs]
theorem PE.or2 {X : Cx} {e : Expr} {t t' : TE} (h : PE X e t) (h' : PE X e t') : PE X e (fun z H Q => t z H Q ∨ t' z H Q) := ⟨fun pins s z H Q I q => q.elim (h.run pins s z H Q I) (h'.run pins s z H Q I)⟩
theorem PT.or2 {X : Cx} {e : Expr} {t t' : TT} (h : PT X e t) (h' : PT X e t') : PT X e (fun z H Q => t z H Q ∨ t' z H Q) := ⟨fun pins s z H Q I q => q.elim (h.run pins s z H Q I) (h'.run pins s z H Q I)⟩
theorem PS.or2 {X : Cx} {e : Stmt} {t t' : TS} (h : PS X e t) (h' : PS X e t') : PS X e (fun D z H => t D z H ∨ t' D z H) := ⟨fun pins s z H D I q => q.elim (h.run pins s z H D I) (h'.run pins s z H D I)⟩
theorem PI.or2 {X : Cx} {tg e : Expr} {t t' : TI} (h : PI X tg e t) (h' : PI X tg e t') : PI X tg e (fun z H Q => t z H Q ∨ t' z H Q) := ⟨fun pins s z H Q I q => q.elim (h.run pins s z H Q I) (h'.run pins s z H Q I)⟩
/-! ### data -/
mutual
def toP : MV → PyData
  | .non => .none
  | .bl b => .bool b
  | .int i => .int i
  | .str x => .str x
  | .tup xs => .tuple (toPs xs)
  | .row xs => .tuple (toPs xs)
  | .lst xs => .list (toPs xs)
  | _ => .none
def toPs : List MV → List PyData
  | [] => []
  | x :: xs => toP x :: toPs xs
end
mutual
theorem toP_can : ∀ (n : Nat) (v : MV), isD n v = true → (toP v).canLay0 = true ∧ (toP v).depth ≤ n
  | n, .non, _ => by simp [toP, PyData.canLay0, PyData.depth]
  | n, .bl b, _ => by simp [toP, PyData.canLay0, PyData.depth]
  | n, .int i, _ => by simp [toP, PyData.canLay0, PyData.depth]
  | n, .str x, h => by
    simp only [isD, strFine, Bool.and_eq_true] at h
    simp only [toP, PyData.canLay0, PyData.strOk, PyData.depth]
    exact ⟨h.1, Nat.zero_le _⟩
  | 0, .tup xs, h => by simp [isD] at h
  | 0, .row xs, h => by simp [isD] at h
  | 0, .lst xs, h => by simp [isD] at h
  | n + 1, .tup xs, h => by
    simp only [isD] at h
    obtain ⟨a, b⟩ := toPs_can n xs h
    simp only [toP, PyData.canLay0, PyData.depth]
    exact ⟨a, by omega⟩
  | n + 1, .row xs, h => by
    simp only [isD] at h
    obtain ⟨a, b⟩ := toPs_can n xs h
    simp only [toP, PyData.canLay0, PyData.depth]
    exact ⟨a, by omega⟩
  | n + 1, .lst xs, h => by
    simp only [isD] at h
    obtain ⟨a, b⟩ := toPs_can n xs h
    simp only [toP, PyData.canLay0, PyData.depth]
    exact ⟨a, by omega⟩
  | n, .scr _, h => by cases n <;> simp [isD] at h
  | n, .dK _, h => by cases n <;> simp [isD] at h
  | n, .dT _, h => by cases n <;> simp [isD] at h
  | n, .ref _, h => by cases n <;> simp [isD] at h
theorem toPs_can : ∀ (n : Nat) (v : List MV), isDs n v = true → PyData.canLayAll0 (toPs v) = true ∧ PyData.depthAll (toPs v) ≤ n
  | n, [], _ => by simp [toPs, PyData.canLayAll0, PyData.depthAll]
  | n, x :: xs, h => by
    simp only [isDs, Bool.and_eq_true] at h
    obtain ⟨a, b⟩ := toP_can n x h.1
    obtain ⟨c, d⟩ := toPs_can n xs h.2
    simp only [toPs, PyData.canLayAll0, PyData.depthAll, Bool.and_eq_true]
    exact ⟨⟨a, c⟩, by omega⟩
end
mutual
theorem toP_eqv : ∀ (x y : MV) (n : Nat), isD n x = true → isD n y = true → PyData.eqv (toP x) (toP y) = eqD x y
  | .tup xs, y, 0, hx, _ => by simp [isD] at hx
  | .row xs, y, 0, hx, _ => by simp [isD] at hx
  | .lst xs, y, 0, hx, _ => by simp [isD] at hx
  | .tup xs, y, n + 1, hx, hy => by
    simp only [isD] at hx
    cases y <;> first | (simp [isD] at hy; done) | skip
    all_goals first
      | (rename_i ys; simp only [isD] at hy; simp only [toP, PyData.eqv, eqD]; exact toPs_eqv xs ys n hx hy)
      | (simp [toP, PyData.eqv, eqD])
  | .row xs, y, n + 1, hx, hy => by
    simp only [isD] at hx
    cases y <;> first | (simp [isD] at hy; done) | skip
    all_goals first
      | (rename_i ys; simp only [isD] at hy; simp only [toP, PyData.eqv, eqD]; exact toPs_eqv xs ys n hx hy)
      | (simp [toP, PyData.eqv, eqD])
  | .lst xs, y, n + 1, hx, hy => by
    simp only [isD] at hx
    cases y <;> first | (simp [isD] at hy; done) | skip
    all_goals first
      | (rename_i ys; simp only [isD] at hy; simp only [toP, PyData.eqv, eqD]; exact toPs_eqv xs ys n hx hy)
      | (simp [toP, PyData.eqv, eqD])
  | .non, y, n, hx, hy => by cases y <;> first | (cases n <;> simp [isD] at hy; done) | simp [toP, PyData.eqv, eqD]
  | .bl _, y, n, hx, hy => by cases y <;> first | (cases n <;> simp [isD] at hy; done) | simp [toP, PyData.eqv, eqD]
  | .int _, y, n, hx, hy => by cases y <;> first | (cases n <;> simp [isD] at hy; done) | simp [toP, PyData.eqv, eqD]
  | .str _, y, n, hx, hy => by cases y <;> first | (cases n <;> simp [isD] at hy; done) | simp [toP, PyData.eqv, eqD]
  | .scr _, y, n, hx, _ => by cases n <;> simp [isD] at hx
  | .dK _, y, n, hx, _ => by cases n <;> simp [isD] at hx
  | .dT _, y, n, hx, _ => by cases n <;> simp [isD] at hx
  | .ref _, y, n, hx, _ => by cases n <;> simp [isD] at hx
theorem toPs_eqv : ∀ (xs ys : List MV) (n : Nat), isDs n xs = true → isDs n ys = true → PyData.eqvAll (toPs xs) (toPs ys) = eqDs xs ys
  | [], [], n, _, _ => by simp [toPs, PyData.eqvAll, eqDs]
  | [], _ :: _, n, _, _ => by simp [toPs, PyData.eqvAll, eqDs]
  | _ :: _, [], n, _, _ => by simp [toPs, PyData.eqvAll, eqDs]
  | x :: xs, y :: ys, n, hx, hy => by
    simp only [isDs, Bool.and_eq_true] at hx hy
    simp only [toPs, PyData.eqvAll, eqDs]
    rw [toP_eqv x y n hx.1 hy.1, toPs_eqv xs ys n hx.2 hy.2]
end
mutual
theorem toP_dp (K : PySem.W.Frag) {r w : List Addr} {H : Hp} : ∀ (v : MV) (u : V) (n : Nat), isD n v = true → VR K r w H v u → Dp K H u (toP v)
  | .non, u, n, _, h => by simp only [VR] at h; subst h; exact Dp.non
  | .bl b, u, n, _, h => by simp only [VR] at h; subst h; exact Dp.bl b
  | .int i, u, n, _, h => by simp only [VR] at h; subst h; exact Dp.int i
  | .str x, u, n, _, h => by simp only [VR] at h; subst h; exact Dp.str x
  | .tup xs, u, 0, hd, h => by simp [isD] at hd
  | .row xs, u, 0, hd, h => by simp [isD] at hd
  | .lst xs, u, 0, hd, h => by simp [isD] at hd
  | .tup xs, u, n + 1, hd, h => by
    simp only [VR] at h
    simp only [isD] at hd
    obtain ⟨a, us, rfl, t, q⟩ := h
    exact Dp.tup t.sq (toPs_dp K xs us n hd q)
  | .row xs, u, n + 1, hd, h => by
    simp only [VR] at h
    simp only [isD] at hd
    obtain ⟨a, us, rfl, t, q⟩ := h
    exact Dp.tup t.sq (toPs_dp K xs us n hd q)
  | .lst xs, u, n + 1, hd, h => by
    simp only [VR] at h
    simp only [isD] at hd
    obtain ⟨a, us, rfl, _, t, q⟩ := h
    exact Dp.lst (.inl (.inl t)) (toPs_dp K xs us n hd q)
  | .scr _, u, n, hx, _ => by cases n <;> simp [isD] at hx
  | .dK _, u, n, hx, _ => by cases n <;> simp [isD] at hx
  | .dT _, u, n, hx, _ => by cases n <;> simp [isD] at hx
  | .ref _, u, n, hx, _ => by cases n <;> simp [isD] at hx
theorem toPs_dp (K : PySem.W.Frag) {r w : List Addr} {H : Hp} : ∀ (v : List MV) (u : List V) (n : Nat), isDs n v = true → VRs K r w H v u → DpAll K H u (toPs v)
  | [], u, n, _, h => by simp only [VRs] at h; subst h; exact DpAll.nil
  | x :: xs, u, n, hd, h => by
    simp only [VRs] at h
    simp only [isDs, Bool.and_eq_true] at hd
    obtain ⟨u, t, rfl, h1, h2⟩ := h
    exact DpAll.cons (toP_dp K x u n hd.1 h1) (toPs_dp K xs t n hd.2 h2)
end
theorem shaped_of {v : MV} (h : isD 60 v = true) : SeqAt.shaped (toP v) = true := by
  obtain ⟨a, b⟩ := toP_can 60 v h
  unfold SeqAt.shaped
  rw [a]
  simp only [Bool.true_and, decide_eq_true_eq]
  omega
theorem rd_dp (K : PySem.W.Frag) {r w : List Addr} {h : MH} {H : Hp} {v : MV} {u : V} (R : Rel K r w h H) (q : VR K r w H v u) (d : isD 60 (rdM h v) = true) : Dp K H u (toP (rdM h v)) := by
  cases v with
  | ref n =>
    simp only [rdM] at d ⊢
    simp only [VR] at q
    obtain ⟨a, rfl, hn⟩ := q
    cases e : h[n]? with
    | none => simp [e, isD] at d
    | some c =>
      have hc := R.at_ n a c hn e
      cases c <;> simp only [e] at d ⊢ <;> first | (simp [isD] at d; done) | skip
      simp only [CRel] at hc
      obtain ⟨us, h1, h2⟩ := hc
      simp only [toP]
      refine Dp.lst (.inl (.inl h1)) ?_
      simp only [isD] at d
      exact toPs_dp K _ _ 59 d h2
  | non => exact toP_dp K _ _ 60 d q
  | bl _ => exact toP_dp K _ _ 60 d q
  | int _ => exact toP_dp K _ _ 60 d q
  | str _ => exact toP_dp K _ _ 60 d q
  | tup _ => exact toP_dp K _ _ 60 d q
  | row _ => exact toP_dp K _ _ 60 d q
  | lst _ => exact toP_dp K _ _ 60 d q
  | scr _ => simp [rdM, isD] at d
  | dK _ => simp [rdM, isD] at d
  | dT _ => simp [rdM, isD] at d
section
variable {K : PySem.W.Frag} {X : Cx} {e a b c : Expr} {m ma mb mc : XE} {pos : Pos} {es : List Expr} {mas : XA}
/-! ### reading lists, dicts -/
theorem list_sq (K : PySem.W.Frag) {r w : List Addr} {h : MH} {H : Hp} {v : MV} {u : V} {xs : List MV} (R : Rel K r w h H) (q : VR K r w H v u) (e : listOf h v = some xs) : ∃ p us, u = .ref p ∧ SqL K H p us ∧ VRs K r w H xs us := by
  cases v <;> simp only [listOf, reduceCtorEq, Option.some.injEq] at e
  · subst e
    simp only [VR] at q
    obtain ⟨p, us, rfl, _, t, q⟩ := q
    exact ⟨p, us, rfl, .inl (.inl t), q⟩
  · subst e
    simp only [VR] at q
    obtain ⟨p, rfl, t⟩ := q
    rcases t with ⟨_, t⟩ | t
    · exact ⟨p, _, rfl, .inl t, VRs.ints _⟩
    · exact ⟨p, _, rfl, .inr t, VRs.ints _⟩
  · rename_i n
    simp only [VR] at q
    obtain ⟨p, rfl, hn⟩ := q
    cases e1 : h[n]? with
    | none => simp [e1] at e
    | some c =>
      have hc := R.at_ n p c hn e1
      cases c <;> simp only [e1, reduceCtorEq, Option.some.injEq] at e
      subst e
      simp only [CRel] at hc
      obtain ⟨us, h1, h2⟩ := hc
      exact ⟨p, us, rfl, .inl (.inl h1), h2⟩
theorem seq_sq (K : PySem.W.Frag) {r w : List Addr} {h : MH} {H : Hp} {v : MV} {u : V} {xs : List MV} (R : Rel K r w h H) (q : VR K r w H v u) (e : seqOf h v = some xs) : ∃ p us, u = .ref p ∧ (SqL K H p us ∨ SqT K H p us) ∧ VRs K r w H xs us := by
  cases v with
  | tup ys =>
    simp only [seqOf, Option.some.injEq] at e
    subst e
    simp only [VR] at q
    obtain ⟨p, us, rfl, t, q⟩ := q
    exact ⟨p, us, rfl, .inr t.sq, q⟩
  | row ys =>
    simp only [seqOf, Option.some.injEq] at e
    subst e
    simp only [VR] at q
    obtain ⟨p, us, rfl, t, q⟩ := q
    exact ⟨p, us, rfl, .inr t.sq, q⟩
  | _ => exact (fun ⟨p, us, e1, e2, e3⟩ => ⟨p, us, e1, .inl e2, e3⟩) (list_sq K R q (by simpa [seqOf] using e))
theorem dictK_rd {r w : List Addr} {h : MH} {H : Hp} {v : MV} {u : V} {xs : List (MK × MV)} (R : Rel K r w h H) (q : VR K r w H v u) (e : dictK h v = some xs) : ∃ p us, u = .ref p ∧ Rd H p (.dK us) ∧ VRk K r w H xs us := by
  cases v <;> simp only [dictK, reduceCtorEq, Option.some.injEq] at e
  · subst e
    simp only [VR] at q
    obtain ⟨p, us, rfl, _, t, q⟩ := q
    exact ⟨p, us, rfl, t, q⟩
  · rename_i n
    simp only [VR] at q
    obtain ⟨p, rfl, hn⟩ := q
    cases e1 : h[n]? with
    | none => simp [e1] at e
    | some c =>
      have hc := R.at_ n p c hn e1
      cases c <;> simp only [e1, reduceCtorEq, Option.some.injEq] at e
      · subst e
        simp only [CRel] at hc
        obtain ⟨us, h1, h2⟩ := hc
        exact ⟨p, us, rfl, .inl h1, h2⟩
      · subst e
        simp only [CRel] at hc
        obtain ⟨o, us, h1, h2⟩ := hc
        exact ⟨p, us, rfl, .inr ⟨o, h1⟩, h2⟩
theorem dictT_rd {r w : List Addr} {h : MH} {H : Hp} {v : MV} {u : V} {xs : List (List MK × MV)} (R : Rel K r w h H) (q : VR K r w H v u) (e : dictT h v = some xs) : ∃ p us, u = .ref p ∧ Rd H p (.dT us) ∧ VRt K r w H xs us := by
  cases v <;> simp only [dictT, reduceCtorEq, Option.some.injEq] at e
  · subst e
    simp only [VR] at q
    obtain ⟨p, us, rfl, _, t, q⟩ := q
    exact ⟨p, us, rfl, t, q⟩
  · rename_i n
    simp only [VR] at q
    obtain ⟨p, rfl, hn⟩ := q
    cases e1 : h[n]? with
    | none => simp [e1] at e
    | some c =>
      have hc := R.at_ n p c hn e1
      cases c <;> simp only [e1, reduceCtorEq, Option.some.injEq] at e
      · subst e
        simp only [CRel] at hc
        obtain ⟨us, h1, h2⟩ := hc
        exact ⟨p, us, rfl, .inl h1, h2⟩
      · subst e
        simp only [CRel] at hc
        obtain ⟨o, us, h1, h2⟩ := hc
        exact ⟨p, us, rfl, .inr ⟨o, h1⟩, h2⟩
theorem key_kV {r w : List Addr} {H : Hp} {v : MV} {u : V} {k : MK} (q : VR K r w H v u) (e : keyOf v = some k) : u = kV k := by
  cases v <;> simp [keyOf] at e <;> subst e <;> simp only [VR] at q <;> exact q
theorem keys_kV {r w : List Addr} {H : Hp} : ∀ {vs : List MV} {us : List V} {ks : List MK}, VRs K r w H vs us → keysOf vs = some ks → us = ks.map kV
  | [], us, ks, q, e => by
    simp [keysOf] at e; subst e
    simp only [VRs] at q; subst q; rfl
  | v :: vs, us, ks, q, e => by
    simp only [VRs] at q
    obtain ⟨u, t, rfl, q1, q2⟩ := q
    simp only [keysOf] at e
    split at e
    · rename_i k ks' e1 e2
      simp at e; subst e
      rw [key_kV q1 e1, keys_kV q2 e2]; rfl
    · cases e
/-- what a dict has, read -/
theorem look_get {r w : List Addr} {h : MH} {H : Hp} {d k : MV} {u1 u2 : V} {o : Option MV} (R : Rel K r w h H) (V1 : VR K r w H d u1) (V2 : VR K r w H k u2) (e : lookM h d k = some o) :
    ∃ p, u1 = .ref p ∧ ((o = none ∧ DGet H p u2 none) ∨ ∃ x u, o = some x ∧ DGet H p u2 (some u) ∧ VR K r w H x u) := by
  unfold lookM at e
  split at e
  · rename_i ks
    split at e
    · rename_i kvs kk e1 e2
      simp at e; subst e
      obtain ⟨p, us, rfl, h1, h2⟩ := dictT_rd R V1 e1
      simp only [VR] at V2
      obtain ⟨b, ws, rfl, t, q⟩ := V2
      have e3 := keys_kV q e2
      subst e3
      refine ⟨p, rfl, ?_⟩
      rcases VRt.get kk h2 with ⟨g1, g2⟩ | ⟨x, u, g1, g2, g3⟩
      · exact .inl ⟨g1, .inr ⟨us, kk, b, h1, rfl, t.2, g2.symm⟩⟩
      · exact .inr ⟨x, u, g1, .inr ⟨us, kk, b, h1, rfl, t.2, g2.symm⟩, g3⟩
    · cases e
  · split at e
    · rename_i kvs kk e1 e2
      simp at e; subst e
      obtain ⟨p, us, rfl, h1, h2⟩ := dictK_rd R V1 e1
      have e3 := key_kV V2 e2
      subst e3
      refine ⟨p, rfl, ?_⟩
      rcases VRk.get kk h2 with ⟨g1, g2⟩ | ⟨x, u, g1, g2, g3⟩
      · exact .inl ⟨g1, .inl ⟨us, kk, h1, rfl, g2.symm⟩⟩
      · exact .inr ⟨x, u, g1, .inl ⟨us, kk, h1, rfl, g2.symm⟩, g3⟩
    · cases e
theorem flat_of {r w : List Addr} {H : Hp} {v : MV} {u : V} (q : VR K r w H v u) (f : flatM v = true) : flatV u = true := by
  cases v <;> simp [flatM] at f <;> simp only [VR] at q <;> subst q <;> rfl
theorem flats_of {r w : List Addr} {H : Hp} : ∀ {vs : List MV} {us : List V}, VRs K r w H vs us → vs.all flatM = true → us.all flatV = true
  | [], us, q, _ => by simp only [VRs] at q; subst q; rfl
  | v :: vs, us, q, f => by
    simp only [VRs] at q
    obtain ⟨u, t, rfl, q1, q2⟩ := q
    rw [List.all_cons, Bool.and_eq_true] at f ⊢
    exact ⟨flat_of q1 f.1, flats_of q2 f.2⟩
theorem feq_of {r w : List Addr} {H : Hp} {x y : MV} {u v : V} (q1 : VR K r w H x u) (q2 : VR K r w H y v) (f1 : flatM x = true) (f2 : flatM y = true) : eqV v u = feqM y x := by
  cases x <;> simp [flatM] at f1 <;> simp only [VR] at q1 <;> subst q1 <;> cases y <;> simp [flatM] at f2 <;> simp only [VR] at q2 <;> subst q2 <;> rfl
theorem in_of {r w : List Addr} {H : Hp} {x : MV} {u : V} (q1 : VR K r w H x u) (f1 : flatM x = true) : ∀ {vs : List MV} {us : List V}, VRs K r w H vs us → vs.all flatM = true → inV u us = vs.any fun y => feqM y x
  | [], us, q, _ => by simp only [VRs] at q; subst q; rfl
  | v :: vs, us, q, f => by
    simp only [VRs] at q
    obtain ⟨u', t, rfl, q2, q3⟩ := q
    rw [List.all_cons, Bool.and_eq_true] at f
    have ih := in_of q1 f1 q3 f.2
    unfold inV at ih ⊢
    rw [List.any_cons, List.any_cons, ih, feq_of q1 q2 f1 f.1]
theorem xOp_at {f : MH → MV → MV → Option MV} {s : SM} {h h' : MH} {v : MV} (e : xOp f ma mb s h = some (v, h')) : ∃ x h1 y, ma s h = some (x, h1) ∧ mb s h1 = some (y, h') ∧ f h' x y = some v := by
  unfold xOp at e
  cases e1 : ma s h with
  | none => simp [e1] at e
  | some p1 =>
    obtain ⟨x, h1⟩ := p1
    simp only [e1] at e
    cases e2 : mb s h1 with
    | none => simp [e2] at e
    | some p2 =>
      obtain ⟨y, h2⟩ := p2
      simp only [e2] at e
      cases e3 : f h2 x y with
      | none => simp [e3] at e
      | some v' =>
        simp only [e3, Option.some.injEq, Prod.mk.injEq] at e
        obtain ⟨rfl, rfl⟩ := e
        exact ⟨x, h1, y, rfl, e2, e3⟩
/-- two expressions, then R of their values -/
theorem two_at {r w : List Addr} {s : SM} {z : L2.St} {h h1 h2 : MH} {H : Hp} {x y : MV} {T : V → V → Hp → Prop} (R : Rel K r w h H) (S : SR K r w H s z) (e1 : ma s h = some (x, h1)) (e2 : mb s h1 = some (y, h2))
    (k : ∀ r2 u1 u2 H2, Fwd r H r2 H2 → Rel K r2 w h2 H2 → VR K r2 w H2 x u1 → VR K r2 w H2 y u2 → T u1 u2 H2) : tM K ma z H fun u1 H1 => tM K mb z H1 fun u2 H2 => T u1 u2 H2 :=
  ⟨r, w, s, h, x, h1, R, S, e1, fun r1 u1 H1 F1 R1 V1 => ⟨r1, w, s, h1, y, h2, R1, S.fwd F1, e2, fun r2 u2 H2 F2 R2 V2 => k r2 u1 u2 H2 (F1.tr R1 F2) R2 (VR.fwd F2 _ _ V1) V2⟩⟩
theorem c_in {k : Nat} (hr : Room k X.A) (ha : ME X a ma) (hb : ME X b mb) (hm : behindInMarks .In b = false := by rfl) : ME X (.Compare a [.In] [b] pos) (xOp opIn ma mb) ∧ MT X (.Compare a [.In] [b] pos) (xB (xOp opIn ma mb)) := by
  have main : ∀ z H Q, tM X.K (xOp opIn ma mb) z H Q → tOp (rIn X.K false) (tM X.K ma) (tM X.K mb) z H Q ∨ tDIn (tM X.K ma) (tM X.K mb) z H Q := by
   rintro z H Q ⟨r, w, s, h, v, h', R, S, e, C⟩
   obtain ⟨x, h1, y, e1, e2, e3⟩ := xOp_at e
   unfold opIn at e3
   cases e4 : seqOf h' y with
   | some xs =>
     rw [e4] at e3
     refine .inl (two_at R S e1 e2 fun r2 u1 u2 H2 F R2 V1 V2 => ?_)
     obtain ⟨p, us, rfl, sq, q⟩ := seq_sq X.K R2 V2 e4
     simp only [inSeq] at e3
     split at e3
     · rename_i f
       rw [Bool.and_eq_true] at f
       simp only [Option.map_some, Option.some.injEq] at e3
       subst e3
       exact ⟨p, us, rfl, sq, flat_of V1 f.1, flats_of q f.2, C r2 _ H2 F R2 (by simp only [VR, Bool.false_eq_true, if_false]; rw [in_of V1 f.1 q f.2])⟩
     · cases e3
   | none =>
     rw [e4] at e3
     refine .inr (two_at R S e1 e2 fun r2 u1 u2 H2 F R2 V1 V2 => ?_)
     simp only at e3
     cases e5 : lookM h' y x with
     | none => simp [e5] at e3
     | some o =>
       simp only [e5, Option.map_some, Option.some.injEq] at e3
       subst e3
       obtain ⟨p, rfl, g⟩ := look_get R2 V2 V1 e5
       rcases g with ⟨rfl, g⟩ | ⟨x', u, rfl, g, _⟩
       · exact ⟨p, none, rfl, g, C r2 _ H2 F R2 (by simp [VR])⟩
       · exact ⟨p, some u, rfl, g, C r2 _ H2 F R2 (by simp [VR])⟩
  exact ⟨PE.wk (PE.or2 (pe_cmpR op_in_seq ha hb hm) (pe_cmp (pc_din (hu_of hr) ha hb) hm)) main,
    PT.wk (PT.or2 (pt_cmpR op_in_seq ha hb hm) (pt_cmp (pc_din (hu_of hr) ha hb) hm)) fun z H Q q => main z H _ (tB_wk z H Q q)⟩
theorem c_notin {k : Nat} (hr : Room k X.A) (ha : ME X a ma) (hb : ME X b mb) (hm : behindInMarks .NotIn b = false := by rfl) : ME X (.Compare a [.NotIn] [b] pos) (xOp opNotIn ma mb) ∧ MT X (.Compare a [.NotIn] [b] pos) (xB (xOp opNotIn ma mb)) := by
  have main : ∀ z H Q, tM X.K (xOp opNotIn ma mb) z H Q → tOp (rIn X.K true) (tM X.K ma) (tM X.K mb) z H Q ∨ tDNotIn (tM X.K ma) (tM X.K mb) z H Q := by
   rintro z H Q ⟨r, w, s, h, v, h', R, S, e, C⟩
   obtain ⟨x, h1, y, e1, e2, e3⟩ := xOp_at e
   unfold opNotIn at e3
   cases e4 : seqOf h' y with
   | some xs =>
     rw [e4] at e3
     refine .inl (two_at R S e1 e2 fun r2 u1 u2 H2 F R2 V1 V2 => ?_)
     obtain ⟨p, us, rfl, sq, q⟩ := seq_sq X.K R2 V2 e4
     simp only [inSeq] at e3
     split at e3
     · rename_i f
       rw [Bool.and_eq_true] at f
       simp only [Option.map_some, Option.some.injEq] at e3
       subst e3
       exact ⟨p, us, rfl, sq, flat_of V1 f.1, flats_of q f.2, C r2 _ H2 F R2 (by simp only [VR, if_true]; rw [in_of V1 f.1 q f.2])⟩
     · cases e3
   | none =>
     rw [e4] at e3
     refine .inr (two_at R S e1 e2 fun r2 u1 u2 H2 F R2 V1 V2 => ?_)
     simp only at e3
     cases e5 : lookM h' y x with
     | none => simp [e5] at e3
     | some o =>
       simp only [e5, Option.map_some, Option.some.injEq] at e3
       subst e3
       obtain ⟨p, rfl, g⟩ := look_get R2 V2 V1 e5
       rcases g with ⟨rfl, g⟩ | ⟨x', u, rfl, g, _⟩
       · exact ⟨p, none, rfl, g, C r2 _ H2 F R2 (by simp [VR])⟩
       · exact ⟨p, some u, rfl, g, C r2 _ H2 F R2 (by simp [VR])⟩
  exact ⟨PE.wk (PE.or2 (pe_cmpR op_notIn_seq ha hb hm) (pe_cmp (pc_dnotin (hu_of hr) ha hb) hm)) main,
    PT.wk (PT.or2 (pt_cmpR op_notIn_seq ha hb hm) (pt_cmp (pc_dnotin (hu_of hr) ha hb) hm)) fun z H Q q => main z H _ (tB_wk z H Q q)⟩
theorem me_ix {k : Nat} (hr : Room k X.A) (ha : ME X a ma) (hb : ME X b mb) (hs : PlainIx b := by exact fun _ _ => rfl) : ME X (.Subscript a b pos) (xOp opIx ma mb) :=
  PE.wk (PE.or2 (pe_ix (ix_list.or ix_tup) ha hb hs) (pe_dget (hu_of hr) ha hb hs)) fun z H Q ⟨r, w, s, h, v, h', R, S, e, C⟩ => by
  obtain ⟨x, h1, y, e1, e2, e3⟩ := xOp_at e
  unfold opIx at e3
  cases e4 : seqOf h' x with
  | some xs =>
    rw [e4] at e3
    refine .inl (two_at R S e1 e2 fun r2 u1 u2 H2 F R2 V1 V2 => ?_)
    cases y <;> simp only [reduceCtorEq] at e3
    obtain ⟨p, us, rfl, sq, q⟩ := seq_sq X.K R2 V1 e4
    obtain ⟨u, q1, q2⟩ := VRs.at_ q e3
    simp only [VR] at V2
    subst V2
    rcases sq with sq | sq
    · exact .inl ⟨p, us, _, u, rfl, rfl, sq, q1, C r2 u H2 F R2 q2⟩
    · exact .inr ⟨p, us, _, u, rfl, rfl, sq, q1, C r2 u H2 F R2 q2⟩
  | none =>
    rw [e4] at e3
    simp only at e3
    refine .inr (two_at R S e1 e2 fun r2 u1 u2 H2 F R2 V1 V2 => ?_)
    split at e3
    · rename_i v' e5
      simp only [Option.some.injEq] at e3
      subst e3
      obtain ⟨p, rfl, g⟩ := look_get R2 V1 V2 e5
      rcases g with ⟨q, _⟩ | ⟨x', u, q, g, q2⟩
      · cases q
      · cases q
        exact ⟨p, u, rfl, g, C r2 u H2 F R2 q2⟩
    · cases e3
/-! ### arguments, displays, built-ins -/
theorem ma_nil : MA X [] xNil := ⟨PA.wk pa_nil fun z H Q ⟨r, w, s, h, v, h', R, S, e, C⟩ => by
  simp only [xNil, Option.some.injEq, Prod.mk.injEq] at e
  obtain ⟨rfl, rfl⟩ := e
  exact C r [] H (Fwd.refl r H) R (by simp [VRs]), fun s h vs h' e => by
  simp only [xNil, Option.some.injEq, Prod.mk.injEq] at e
  obtain ⟨rfl, rfl⟩ := e
  rfl⟩
theorem xCons_at {s : SM} {h h' : MH} {vs : List MV} (e : xCons ma mas s h = some (vs, h')) : ∃ x h1 xs, ma s h = some (x, h1) ∧ mas s h1 = some (xs, h') ∧ vs = x :: xs := by
  unfold xCons at e
  cases e1 : ma s h with
  | none => simp [e1] at e
  | some p1 =>
    obtain ⟨x, h1⟩ := p1
    simp only [e1] at e
    cases e2 : mas s h1 with
    | none => simp [e2] at e
    | some p2 =>
      obtain ⟨xs, h2⟩ := p2
      simp only [e2, Option.some.injEq, Prod.mk.injEq] at e
      obtain ⟨rfl, rfl⟩ := e
      exact ⟨x, h1, xs, rfl, e2, rfl⟩
theorem ma_cons (ha : ME X e ma) (hb : MA X es mas) (hs : starEach (e :: es) X.env = (false, eval e X.env) :: starEach es X.env := by rfl) : MA X (e :: es) (xCons ma mas) := ⟨PA.wk (pa_cons ha hb.pa hs) fun z H Q ⟨r, w, s, h, v, h', R, S, e, C⟩ => by
  obtain ⟨x, h1, xs, e1, e2, rfl⟩ := xCons_at e
  exact ⟨r, w, s, h, x, h1, R, S, e1, fun r1 u1 H1 F1 R1 V1 => ⟨r1, w, s, h1, xs, h', R1, S.fwd F1, e2, fun r2 us H2 F2 R2 V2 => C r2 _ H2 (F1.tr R1 F2) R2 (by
    simp only [VRs]; exact ⟨u1, us, rfl, VR.fwd F2 _ _ V1, V2⟩)⟩⟩, fun s h vs h' e => by
  obtain ⟨x, h1, xs, e1, e2, rfl⟩ := xCons_at e
  simp [hb.len s h1 xs h' e2]⟩
theorem me_tup {x1} (h : MA X es mas) (hn : es.length ≤ 1000 := by decide) : ME X (.Tuple es x1 pos) (xTup mas) := PE.wk (pe_tup h.pa) fun z H Q ⟨r, w, s, hh, v, h', R, S, e, C⟩ => by
  unfold xTup at e
  cases e1 : mas s hh with
  | none => simp [e1] at e
  | some p1 =>
    obtain ⟨xs, h1⟩ := p1
    simp only [e1, Option.some.injEq, Prod.mk.injEq] at e
    obtain ⟨rfl, rfl⟩ := e
    refine ⟨r, w, s, hh, xs, h1, R, S, e1, fun r1 us H1 F1 R1 V1 => ⟨?_, fun p hp => (C.fwd F1 R1).tup R1 hp V1⟩⟩
    rw [← VRs.length V1, h.len s hh xs h1 e1]
    exact Nat.le_of_lt (small1000 hn)
def tTupR (t : TA) : TE := fun σ H Q => t σ H fun xs H1 => xs.length ≤ sizeLine ∧ ∀ (p : Addr) (o : Obj), o.cls = .type "tuple" → o.dict = none → H1 p = none → Q (.ref p) (upd H1 p (.frz o (.tup xs)))
theorem pe_tupR {t : TA} {x1 : Nat} (h : PA X es t) : PE X (.Tuple es x1 pos) (tTupR t) := by
  refine ⟨fun pins s σ H Q I hq => ?_⟩
  refine wpAny_Tuple_spliced (thn (h.run pos pins s σ H _ I hq) fun us s1 ⟨xs, H1, I1, r, z, q⟩ => ⟨by rw [← r.length]; exact z, ?_⟩)
  have hf : H1 s1.heap.objs.size = none := I1.hok.fresh (Nat.le_refl _)
  refine ⟨.ref s1.heap.objs.size, _, I1.laid (t' := s1.toks) (o := .frz _ (.tup xs)) (fun b u e => Heap.get?_push_of_some _ e) (Nat.le_refl _) ⟨Heap.get?_push_size _ rfl, z, us, r, ⟨_, Heap.get?_push_size _ rfl, rfl, _, rfl⟩⟩, rfl, q _ _ rfl rfl hf⟩
theorem me_tupR {x1} (h : MA X es mas) (hn : es.length ≤ 1000 := by decide) : ME X (.Tuple es x1 pos) (xTupR mas) := PE.wk (pe_tupR h.pa) fun z H Q ⟨r, w, s, hh, v, h', R, S, e, C⟩ => by
  unfold xTupR at e
  cases e1 : mas s hh with
  | none => simp [e1] at e
  | some p1 =>
    obtain ⟨xs, h1⟩ := p1
    simp only [e1, Option.some.injEq, Prod.mk.injEq] at e
    obtain ⟨rfl, rfl⟩ := e
    refine ⟨r, w, s, hh, xs, h1, R, S, e1, fun r1 us H1 F1 R1 V1 => ⟨?_, fun p o hc hd hp => (C.fwd F1 R1).row hc hd R1 hp V1⟩⟩
    rw [← VRs.length V1, h.len s hh xs h1 e1]
    exact Nat.le_of_lt (small1000 hn)
theorem mf_lst (h : MA X es mas) (hn : es.length ≤ 1000 := by decide) : MF X (.List es pos) (xLst mas) := PE.wk (pe_lst h.pa) fun z H Q ⟨r, w, s, hh, v, h', R, S, e, C⟩ => by
  unfold xLst at e
  cases e1 : mas s hh with
  | none => simp [e1] at e
  | some p1 =>
    obtain ⟨xs, h1⟩ := p1
    simp only [e1, Option.some.injEq, Prod.mk.injEq] at e
    obtain ⟨rfl, rfl⟩ := e
    refine ⟨r, w, s, hh, xs, h1, R, S, e1, fun r1 us H1 F1 R1 V1 => ⟨?_, fun p hp => (C.fwd F1 R1).lst R1 hp V1⟩⟩
    rw [← VRs.length V1, h.len s hh xs h1 e1]
    exact Nat.le_of_lt (small1000 hn)
theorem mf_dnewK : MF X (.Dict [] [] pos) (xC (.dK [])) := PE.wk pe_dnewK fun z H Q ⟨r, w, s, hh, v, h', R, S, e, C⟩ p hp => by
  simp only [xC, Option.some.injEq, Prod.mk.injEq] at e
  obtain ⟨rfl, rfl⟩ := e
  exact C r p _ (Fwd.new r hp) hp (R.hold hp) (by simp only [VF]; exact ⟨[], upd_same, by simp [VRk]⟩)
theorem mf_dnewT : MF X (.Dict [] [] pos) (xC (.dT [])) := PE.wk pe_dnewT fun z H Q ⟨r, w, s, hh, v, h', R, S, e, C⟩ p hp => by
  simp only [xC, Option.some.injEq, Prod.mk.injEq] at e
  obtain ⟨rfl, rfl⟩ := e
  exact C r p _ (Fwd.new r hp) hp (R.hold hp) (by simp only [VF]; exact ⟨[], upd_same, by simp [VRt]⟩)
theorem xArgs_at {f : MH → List MV → Option MV} {s : SM} {h h' : MH} {v : MV} (e : xArgs f mas s h = some (v, h')) : ∃ xs, mas s h = some (xs, h') ∧ f h' xs = some v := by
  unfold xArgs at e
  cases e1 : mas s h with
  | none => simp [e1] at e
  | some p1 =>
    obtain ⟨xs, h1⟩ := p1
    simp only [e1] at e
    cases e2 : f h1 xs with
    | none => simp [e2] at e
    | some v' =>
      simp only [e2, Option.some.injEq, Prod.mk.injEq] at e
      obtain ⟨rfl, rfl⟩ := e
      exact ⟨xs, rfl, e2⟩
/-- a built-in function of arguments that changes nothing -/
theorem me_b {id : String} {x : Str} {p : Pos} {f : MH → List MV → Option MV} {t : List V → Hp → VK → Prop} (hc : CallR X (.builtin id) t) (hr : ∀ r w h H xs v us Q, Rel X.K r w h H → VRs X.K r w H xs us → f h xs = some v → Cont X.K r w h H v Q → t us H Q)
    (hv : bootBuiltins x = some (.builtin id)) (hm : X.mg x = none) (ha : MA X (e :: es) mas) (hg : Gl X x := by rfl) (hn : x ≠ "__name__" := by decide +kernel) (hdb : (x == ("__debug__" : Str)) = false := by decide +kernel)
    (he : starEach (e :: es) X.env = (false, eval e X.env) :: starEach es X.env := by rfl) (hpl : (backTo pos (starEach es X.env)).any (·.1) = false := by rfl) : ME X (.Call (.Name x p) (e :: es) [] pos) (xArgs f mas) :=
  PE.wk (pe_callB hc hg hm hv ha.pa hn hdb he hpl) fun z H Q ⟨r, w, s, h, v, h', R, S, e, C⟩ => by
  obtain ⟨xs, e1, e2⟩ := xArgs_at e
  exact ⟨r, w, s, h, xs, h', R, S, e1, fun r1 us H1 F1 R1 V1 => hr r1 w h' H1 xs v us Q R1 V1 e2 (C.fwd F1 R1)⟩
theorem me_t {T : String} {x : Str} {p : Pos} {f : MH → List MV → Option MV} {t : List V → Hp → VK → Prop} (hc : CallR X (.type T) t) (hr : ∀ r w h H xs v us Q, Rel X.K r w h H → VRs X.K r w H xs us → f h xs = some v → Cont X.K r w h H v Q → t us H Q)
    (hv : bootBuiltins x = some (.type T)) (hm : X.mg x = none) (ha : MA X (e :: es) mas) (hg : Gl X x := by rfl) (hn : x ≠ "__name__" := by decide +kernel) (hdb : (x == ("__debug__" : Str)) = false := by decide +kernel)
    (he : starEach (e :: es) X.env = (false, eval e X.env) :: starEach es X.env := by rfl) (hpl : (backTo pos (starEach es X.env)).any (·.1) = false := by rfl) : ME X (.Call (.Name x p) (e :: es) [] pos) (xArgs f mas) :=
  PE.wk (pe_callTy hc hg hm hv ha.pa hn hdb he hpl) fun z H Q ⟨r, w, s, h, v, h', R, S, e, C⟩ => by
  obtain ⟨xs, e1, e2⟩ := xArgs_at e
  exact ⟨r, w, s, h, xs, h', R, S, e1, fun r1 us H1 F1 R1 V1 => hr r1 w h' H1 xs v us Q R1 V1 e2 (C.fwd F1 R1)⟩
theorem mf_t {T : String} {x : Str} {p : Pos} {f : MH → List MV → Option MV} {t : List V → Hp → VK → Prop} (hc : CallR X (.type T) t) (hr : ∀ r w h H xs v us Q, Rel X.K r w h H → VRs X.K r w H xs us → f h xs = some v → ContF X.K r w h H v Q → t us H Q)
    (hv : bootBuiltins x = some (.type T)) (hm : X.mg x = none) (ha : MA X (e :: es) mas) (hg : Gl X x := by rfl) (hn : x ≠ "__name__" := by decide +kernel) (hdb : (x == ("__debug__" : Str)) = false := by decide +kernel)
    (he : starEach (e :: es) X.env = (false, eval e X.env) :: starEach es X.env := by rfl) (hpl : (backTo pos (starEach es X.env)).any (·.1) = false := by rfl) : MF X (.Call (.Name x p) (e :: es) [] pos) (xArgs f mas) :=
  PE.wk (pe_callTy hc hg hm hv ha.pa hn hdb he hpl) fun z H Q ⟨r, w, s, h, v, h', R, S, e, C⟩ => by
  obtain ⟨xs, e1, e2⟩ := xArgs_at e
  exact ⟨r, w, s, h, xs, h', R, S, e1, fun r1 us H1 F1 R1 V1 => hr r1 w h' H1 xs v us Q R1 V1 e2 (C.fwd F1 R1)⟩
theorem vrs1 {r w : List Addr} {H : Hp} {x : MV} {us : List V} (q : VRs K r w H [x] us) : ∃ u, us = [u] ∧ VR K r w H x u := by
  simp only [VRs] at q
  obtain ⟨u, t, rfl, q, rfl⟩ := q
  exact ⟨u, rfl, q⟩
theorem vrs2 {r w : List Addr} {H : Hp} {x y : MV} {us : List V} (q : VRs K r w H [x, y] us) : ∃ u v, us = [u, v] ∧ VR K r w H x u ∧ VR K r w H y v := by
  simp only [VRs] at q
  obtain ⟨u, t, rfl, q, u2, t2, rfl, q2, rfl⟩ := q
  exact ⟨u, u2, rfl, q, q2⟩
theorem me_abs {p : Pos} (hm : X.mg "abs" = none) (ha : MA X (e :: es) mas) (hg : Gl X "abs" := by rfl) (he : starEach (e :: es) X.env = (false, eval e X.env) :: starEach es X.env := by rfl) (hpl : (backTo pos (starEach es X.env)).any (·.1) = false := by rfl) :
    ME X (.Call (.Name "abs" p) (e :: es) [] pos) (xArgs fAbs mas) := me_b call_abs (fun r w h H xs v us Q R V e C => by
  unfold fAbs at e
  split at e
  · simp at e; subst e
    obtain ⟨u, rfl, q⟩ := vrs1 V
    simp only [VR] at q; subst q
    exact ⟨_, rfl, C.now R (by simp only [VR])⟩
  · cases e) (by decide +kernel) hm ha hg (by decide +kernel) (by decide +kernel) he hpl
theorem me_max2 {p : Pos} (hm : X.mg "max" = none) (ha : MA X (e :: es) mas) (hc : X.calm = true := by rfl) (hg : Gl X "max" := by rfl) (he : starEach (e :: es) X.env = (false, eval e X.env) :: starEach es X.env := by rfl) (hpl : (backTo pos (starEach es X.env)).any (·.1) = false := by rfl) :
    ME X (.Call (.Name "max" p) (e :: es) [] pos) (xArgs fMax2 mas) := me_b (call_max2 hc) (fun r w h H xs v us Q R V e C => by
  unfold fMax2 at e
  split at e
  · simp at e; subst e
    obtain ⟨u, u', rfl, q, q'⟩ := vrs2 V
    simp only [VR] at q q'; subst q; subst q'
    exact ⟨_, _, rfl, C.now R (by simp only [VR])⟩
  · cases e) (by decide +kernel) hm ha hg (by decide +kernel) (by decide +kernel) he hpl
theorem me_min2 {p : Pos} (hm : X.mg "min" = none) (ha : MA X (e :: es) mas) (hc : X.calm = true := by rfl) (hg : Gl X "min" := by rfl) (he : starEach (e :: es) X.env = (false, eval e X.env) :: starEach es X.env := by rfl) (hpl : (backTo pos (starEach es X.env)).any (·.1) = false := by rfl) :
    ME X (.Call (.Name "min" p) (e :: es) [] pos) (xArgs fMin2 mas) := me_b (call_min2 hc) (fun r w h H xs v us Q R V e C => by
  unfold fMin2 at e
  split at e
  · simp at e; subst e
    obtain ⟨u, u', rfl, q, q'⟩ := vrs2 V
    simp only [VR] at q q'; subst q; subst q'
    exact ⟨_, _, rfl, C.now R (by simp only [VR])⟩
  · cases e) (by decide +kernel) hm ha hg (by decide +kernel) (by decide +kernel) he hpl
end
end Ew
end

section
set_option Elab.async false
set_option linter.all false
set_option maxRecDepth 100000
set_option maxHeartbeats 4000000
/-! EwE: built-ins, methods, statements, loops, calls. -/
namespace Ew
open PySem PySem.Spec PyProof.Rows L2
variable [Tabs]
section
variable {K : PySem.W.Frag} {X : Cx}
/-- len of a dict with tuple keys, locked or not -/
theorem call_len_dTR : CallR X (.builtin "len") (fun xs H Q => ∃ (p : Addr) (kvs : List (List Key × V)), xs = [.ref p] ∧ Rd H p (.dT kvs) ∧ Q (.int ((kvs.length : Nat) : Int)) H) := by
  intro pins s z H xs us Q I r h
  obtain ⟨p, kvs, rfl, hp, q⟩ := h
  obtain ⟨u, rfl, ru⟩ := vals1 r
  obtain rfl : u = Value.ref p := ru
  obtain ⟨hz, lo, ys, rk, hd⟩ := dt_rd I.hok hp
  have hl : kvs.length = ys.length := Paired.length rk
  refine call_len_dictH lo hd (by rw [sizeLine_eq] at hz; omega) ?_
  exact ⟨.int ((kvs.length : Nat) : Int), H, I.tok _, ⟨_, by rw [hl]⟩, q⟩
theorem call_len_dKR : CallR X (.builtin "len") (fun xs H Q => ∃ (p : Addr) (kvs : List (Key × V)), xs = [.ref p] ∧ Rd H p (.dK kvs) ∧ Q (.int ((kvs.length : Nat) : Int)) H) := by
  intro pins s z H xs us Q I r h
  obtain ⟨a, kvs, rfl, ha, q⟩ := h
  obtain ⟨u, rfl, ru⟩ := vals1 r
  cases ru
  exact d_len I ha fun t s' I' => ⟨.int kvs.length, H, I', ⟨t, rfl⟩, q⟩
end
section
variable {K : PySem.W.Frag} {X : Cx} {e a b c o : Expr} {m ma mb mc mo : XE} {pos p : Pos} {es : List Expr} {mas : XA}
theorem me_len (hm : X.mg "len" = none) (ha : MA X (e :: es) mas) (hg : Gl X "len" := by rfl) (he : starEach (e :: es) X.env = (false, eval e X.env) :: starEach es X.env := by rfl) (hpl : (backTo pos (starEach es X.env)).any (·.1) = false := by rfl) :
    ME X (.Call (.Name "len" p) (e :: es) [] pos) (xArgs fLen mas) := me_b (call_len_seq.or (call_len_dKR.or call_len_dTR)) (fun r w h H xs v us Q R V e C => by
  unfold fLen at e
  split at e
  · rename_i v'
    obtain ⟨u, rfl, q⟩ := vrs1 V
    split at e
    · rename_i ys e1
      simp only [Option.some.injEq] at e; subst e
      obtain ⟨p, ws, rfl, sq, q2⟩ := seq_sq X.K R q e1
      exact .inl ⟨p, ws, rfl, sq, C.now R (by simp only [VR]; rw [VRs.length q2])⟩
    · split at e
      · rename_i kvs e1
        simp only [Option.some.injEq] at e; subst e
        obtain ⟨p, ws, rfl, sq, q2⟩ := dictK_rd R q e1
        exact .inr (.inl ⟨p, ws, rfl, sq, C.now R (by simp only [VR]; rw [VRk.length q2])⟩)
      · split at e
        · rename_i kvs e1
          simp only [Option.some.injEq] at e; subst e
          obtain ⟨p, ws, rfl, sq, q2⟩ := dictT_rd R q e1
          exact .inr (.inr ⟨p, ws, rfl, sq, C.now R (by simp only [VR]; rw [VRt.length q2])⟩)
        · cases e
  · cases e) PySem.boot_len hm ha hg (by decide +kernel) (by decide +kernel) he hpl
theorem mf_list (hm : X.mg "list" = none) (ha : MA X (e :: es) mas) (hg : Gl X "list" := by rfl) (he : starEach (e :: es) X.env = (false, eval e X.env) :: starEach es X.env := by rfl) (hpl : (backTo pos (starEach es X.env)).any (·.1) = false := by rfl) :
    MF X (.Call (.Name "list" p) (e :: es) [] pos) (xArgs fList mas) := mf_t call_list_of (fun r w h H xs v us Q R V e C => by
  unfold fList at e
  split at e
  · rename_i v'
    obtain ⟨u, rfl, q⟩ := vrs1 V
    cases e1 : seqOf h v' with
    | none => simp [e1] at e
    | some ys =>
      simp only [e1, Option.map_some, Option.some.injEq] at e; subst e
      obtain ⟨p, ws, rfl, sq, q2⟩ := seq_sq X.K R q e1
      exact ⟨p, ws, rfl, sq, fun l hl => C.lst R hl q2⟩
  · cases e) (by decide +kernel) hm ha hg (by decide +kernel) (by decide +kernel) he hpl
/-- tuple(list), the object known -/
theorem call_tupleR : CallR X (.type "tuple") (fun xs H Q => ∃ p ys, xs = [.ref p] ∧ ((SqL X.K H p ys ∧ ∀ (l : Addr) (o : Obj), o.cls = .type "tuple" → o.dict = none → H l = none → Q (.ref l) (upd H l (.frz o (.tup ys)))) ∨ (SqT X.K H p ys ∧ Q (.ref p) H))) := by
  intro pins s σ H xs us Q I r h
  obtain ⟨p, ys, rfl, h⟩ := h
  obtain ⟨u, rfl, rx⟩ := vals1 r
  cases rx
  rcases h with ⟨hq, q⟩ | ⟨hq, q⟩
  · obtain ⟨its, r', pl, hz⟩ := I.list hq
    have hlen := r'.length
    refine call_tuple_list pl.isList (fun h' kp => ?_) (by simp only [List.size_toArray] <;> omega)
    have I1 : Inv X pins σ H { s with heap := h' } := I.kept (t' := s.toks) kp
    have I2 : Inv X pins σ (upd H h'.objs.size (.frz { cls := .type "tuple", data := .seq its.toArray } (.tup ys))) { s with heap := h'.push { cls := .type "tuple", data := .seq its.toArray } } :=
      I1.laid (t' := s.toks) (fun b o e => Heap.get?_push_of_some _ e) (Nat.le_refl _) (show ObjOk X.prog X.w _ _ _ (.frz { cls := .type "tuple", data := .seq its.toArray } (.tup ys)) from ⟨Heap.get?_push_size _ rfl, hz, its, r', IsTup.new _ _⟩)
    exact ⟨.ref h'.objs.size, _, I2, rfl, q _ _ rfl rfl (I1.hok.fresh (Nat.le_refl _))⟩
  · obtain ⟨its, r', pl, hz⟩ := I.tuple hq
    exact call_tuple_same pl ⟨.ref p, H, I, rfl, q⟩
theorem me_tuple (hm : X.mg "tuple" = none) (ha : MA X (e :: es) mas) (hg : Gl X "tuple" := by rfl) (he : starEach (e :: es) X.env = (false, eval e X.env) :: starEach es X.env := by rfl) (hpl : (backTo pos (starEach es X.env)).any (·.1) = false := by rfl) :
    ME X (.Call (.Name "tuple" p) (e :: es) [] pos) (xArgs fTuple mas) := me_t call_tupleR (fun r w h H xs v us Q R V e C => by
  unfold fTuple at e
  split at e
  · obtain ⟨u, rfl, q⟩ := vrs1 V
    simp only [Option.some.injEq] at e; subst e
    have q' := q
    simp only [VR] at q'
    obtain ⟨p, ws, rfl, t, q2⟩ := q'
    exact ⟨p, ws, rfl, .inr ⟨t.sq, C.now R q⟩⟩
  · rename_i v' hne
    obtain ⟨u, rfl, q⟩ := vrs1 V
    cases v' with
    | tup ys => exact absurd rfl (hne ys)
    | row ys =>
      simp only [seqOf, Option.map_some, Option.some.injEq] at e; subst e
      have q' := q
      simp only [VR] at q'
      obtain ⟨p, ws, rfl, t, q2⟩ := q'
      exact ⟨p, ws, rfl, .inr ⟨t.sq, C.now R q⟩⟩
    | _ => exact (fun (e1 : (listOf h _).map MV.row = some v) => by
        cases e2 : listOf h _ with
        | none => rw [e2] at e1; cases e1
        | some ys =>
          rw [e2] at e1
          simp only [Option.map_some, Option.some.injEq] at e1; subst e1
          obtain ⟨p, ws, rfl, sq, q2⟩ := list_sq X.K R q e2
          exact ⟨p, ws, rfl, .inl ⟨sq, fun l o hc hd hl => C.row hc hd R hl q2⟩⟩) (by simpa [seqOf] using e)
  · cases e) (by decide +kernel) hm ha hg (by decide +kernel) (by decide +kernel) he hpl
theorem ints_of {r w : List Addr} {H : Hp} : ∀ {vs : List MV} {us : List V} {bs : List Int}, VRs K r w H vs us → intsOf vs = some bs → us = bs.map V.int
  | [], us, bs, q, e => by
    simp [intsOf] at e; subst e
    simp only [VRs] at q; subst q; rfl
  | v :: vs, us, bs, q, e => by
    simp only [VRs] at q
    obtain ⟨u, t, rfl, q1, q2⟩ := q
    cases v <;> simp only [intsOf, reduceCtorEq] at e
    cases e2 : intsOf vs with
    | none => simp [e2] at e
    | some cs =>
      simp only [e2, Option.map_some, Option.some.injEq] at e; subst e
      simp only [VR] at q1
      rw [q1, ints_of q2 e2]; rfl
theorem me_neg (ha : ME X a ma) : ME X (.UnaryOp .USub a pos) (xUn opNeg ma) := PE.wk (pe_un un_neg ha) fun z H Q ⟨r, w, s, h, v, h', R, S, e, C⟩ => by
  unfold xUn at e
  cases e1 : ma s h with
  | none => simp [e1] at e
  | some p1 =>
    obtain ⟨x, h1⟩ := p1
    simp only [e1] at e
    cases x <;> simp only [opNeg, reduceCtorEq, Option.some.injEq, Prod.mk.injEq] at e
    obtain ⟨rfl, rfl⟩ := e
    exact ⟨r, w, s, h, _, h1, R, S, e1, fun r1 u H1 F1 R1 V1 => by
      simp only [VR] at V1
      exact ⟨_, V1, C r1 _ H1 F1 R1 (by simp only [VR])⟩⟩
/-! ### and, or, not, if -/
variable {ta tb tc : XT}
theorem mw_and1 (ha : MT X a ta) : MW X (.BoolOp .And [a] pos) ta := pw_and1 ha
theorem mw_or1 (ha : MT X a ta) : MW X (.BoolOp .Or [a] pos) ta := pw_or1 ha
theorem mw_and {rest : List Expr} (ha : MT X a ta) (hb : MW X (.BoolOp .And (b :: rest) pos) tb) : MW X (.BoolOp .And (a :: b :: rest) pos) (xAndT ta tb) := PW.wk (pw_and ha hb) fun z H Q ⟨r, w, s, h, v, h', R, S, e, C⟩ => by
  unfold xAndT at e
  split at e
  · cases e
  · rename_i h1 e1
    exact ⟨r, w, s, h, _, h1, R, S, e1, fun r1 H1 F1 R1 => iteT ⟨r1, w, s, h1, v, h', R1, S.fwd F1, e, fun r2 H2 F2 R2 => C r2 H2 (F1.tr R1 F2) R2⟩⟩
  · rename_i h1 e1
    simp only [Option.some.injEq, Prod.mk.injEq] at e
    obtain ⟨rfl, rfl⟩ := e
    exact ⟨r, w, s, h, _, h1, R, S, e1, fun r1 H1 F1 R1 => iteF (C r1 H1 F1 R1)⟩
theorem mw_or {rest : List Expr} (ha : MT X a ta) (hb : MW X (.BoolOp .Or (b :: rest) pos) tb) : MW X (.BoolOp .Or (a :: b :: rest) pos) (xOrT ta tb) := PW.wk (pw_or ha hb) fun z H Q ⟨r, w, s, h, v, h', R, S, e, C⟩ => by
  unfold xOrT at e
  split at e
  · cases e
  · rename_i h1 e1
    simp only [Option.some.injEq, Prod.mk.injEq] at e
    obtain ⟨rfl, rfl⟩ := e
    exact ⟨r, w, s, h, _, h1, R, S, e1, fun r1 H1 F1 R1 => iteT (C r1 H1 F1 R1)⟩
  · rename_i h1 e1
    exact ⟨r, w, s, h, _, h1, R, S, e1, fun r1 H1 F1 R1 => iteF ⟨r1, w, s, h1, v, h', R1, S.fwd F1, e, fun r2 H2 F2 R2 => C r2 H2 (F1.tr R1 F2) R2⟩⟩
theorem mt_not (ha : MT X a ta) : MT X (.UnaryOp .Not a pos) (xNotT ta) := PT.wk (pt_not ha) fun z H Q ⟨r, w, s, h, v, h', R, S, e, C⟩ => by
  unfold xNotT at e
  cases e1 : ta s h with
  | none => simp [e1] at e
  | some p1 =>
    obtain ⟨k, h1⟩ := p1
    simp only [e1, Option.some.injEq, Prod.mk.injEq] at e
    obtain ⟨rfl, rfl⟩ := e
    exact ⟨r, w, s, h, _, h1, R, S, e1, fun r1 H1 F1 R1 => C r1 H1 F1 R1⟩
/-! ### slices -/
theorem mo_none : MO X none xNoPart := ⟨fun pins s z H Q I ⟨r, w, s', h, v, h', R, S, e, C⟩ => po_none.run pins s z H Q I (by
  simp only [xNoPart, Option.some.injEq, Prod.mk.injEq] at e
  obtain ⟨rfl, rfl⟩ := e
  exact C r H (Fwd.refl r H) R)⟩
theorem mo_some (he : ME X e m) : MO X (some e) (xPart m) := ⟨fun pins s z H Q I ⟨r, w, s', h, v, h', R, S, e, C⟩ => (po_some he).run pins s z H Q I (by
  unfold xPart at e
  split at e
  · rename_i i h1 e1
    simp only [Option.some.injEq, Prod.mk.injEq] at e
    obtain ⟨rfl, rfl⟩ := e
    exact ⟨r, w, s', h, _, h1, R, S, e1, fun r1 u H1 F1 R1 V1 => by
      simp only [VR] at V1
      exact ⟨i, V1, C r1 H1 F1 R1⟩⟩
  · cases e)⟩
theorem mf_slL {lo hi : Option Expr} {ml mh : XO} {p2 : Pos} (he : ME X e m) (hl : MO X lo ml) (hh : MO X hi mh) : MF X (.Subscript e (.Slice lo hi none p2) pos) (xSlL m ml mh) := PE.wk (pe_slice sl_list he hl hh) fun z H Q ⟨r, w, s, h, v, h', R, S, e, C⟩ => by
  unfold xSlL at e
  cases e1 : m s h with
  | none => simp [e1] at e
  | some p1 =>
    obtain ⟨x, h1⟩ := p1
    simp only [e1] at e
    cases e2 : ml s h1 with
    | none => simp [e2] at e
    | some p2 =>
      obtain ⟨l, h2⟩ := p2
      simp only [e2] at e
      cases e3 : mh s h2 with
      | none => simp [e3] at e
      | some p3 =>
        obtain ⟨u, h3⟩ := p3
        simp only [e3] at e
        cases e4 : listOf h3 x with
        | none => simp [e4] at e
        | some xs =>
          simp only [e4, Option.some.injEq, Prod.mk.injEq] at e
          obtain ⟨rfl, rfl⟩ := e
          refine ⟨r, w, s, h, x, h1, R, S, e1, fun r1 u1 H1 F1 R1 V1 => ⟨r1, w, s, h1, l, h2, R1, S.fwd F1, e2, fun r2 H2 F2 R2 => ⟨r2, w, s, h2, u, h3, R2, (S.fwd F1).fwd F2, e3, fun r3 H3 F3 R3 => ?_⟩⟩⟩
          obtain ⟨p, us, rfl, sq, q⟩ := list_sq X.K R3 (VR.fwd F3 _ _ (VR.fwd F2 _ _ V1)) e4
          refine ⟨p, us, rfl, sq, fun l' hl' => (((C.fwd F1 R1).fwd F2 R2).fwd F3 R3).lst R3 hl' ?_⟩
          show VRs X.K r3 w H3 (cutM xs l u) (cutV us l u)
          unfold cutM cutV
          rw [← VRs.length q]
          exact VRs.take _ (VRs.drop _ q)
/-! ### methods of lists -/
theorem ref_at {r w : List Addr} {h : MH} {H : Hp} {n : Nat} {u : V} {xs : List MV} (R : Rel K r w h H) (q : VR K r w H (.ref n) u) (e : h[n]? = some (.lst xs)) : ∃ a us, u = .ref a ∧ r[n]? = some a ∧ H a = some (.lst us) ∧ VRs K r w H xs us := by
  simp only [VR] at q
  obtain ⟨a, rfl, hn⟩ := q
  have hc := R.at_ n a _ hn e
  simp only [CRel] at hc
  obtain ⟨us, h1, h2⟩ := hc
  exact ⟨a, us, rfl, hn, h1, h2⟩
theorem put_lst {r w : List Addr} {h : MH} {H : Hp} {n : Nat} {a : Addr} {xs : List MV} {us : List V} {v : MV} {u : V} {Q : VK} (R : Rel K r w h H) (hn : r[n]? = some a) (q : VRs K r w H xs us) (hv : VR K r w H v u) (C : Cont K r w (h.set n (.lst xs)) H v Q) (nf : ∀ ob u, H a ≠ some (.frz ob u)) : Q u (upd H a (.lst us)) :=
  C r u _ (Fwd.put hn _ nf) (R.put hn (c := .lst xs) (by simp only [CRel]; exact ⟨us, upd_same, VRs.map (Stp.put hn _) _ _ q⟩)) (VR.map (Stp.put hn _) _ _ hv)
theorem szl : szLine = sizeLine := by rw [sizeLine_eq]; rfl
theorem lst_here {r w : List Addr} {h : MH} {H : Hp} {n : Nat} {u : V} (R : Rel K r w h H) (q : VR K r w H (.ref n) u) (e : isLstC h n = true) : ∃ a us, u = .ref a ∧ H a = some (.lst us) := by
  unfold isLstC at e
  split at e
  · rename_i xs e1
    obtain ⟨a, us, e2, _, e3, _⟩ := ref_at R q e1
    exact ⟨a, us, e2, e3⟩
  · cases e
theorem me_append {apos : Pos} (ho : ME X o mo) (he : ME X e m) (hbase : attributeBase o "append" X.env (eval o X.env) = eval o X.env := by rfl)
    (hfew : ((backTo pos (starEach [e] X.env)).all (fun x => !x.1) && (backToKw pos (keywordEach [] X.env)).all (fun x => x.1.isSome) && decide ([e].length + ([] : List Keyword).length + (if ([] : List Keyword).isEmpty then 0 else 1) < 30)) = true := by rfl)
    (hline : (apos.endLine == pos.line) = true := by rfl) (hs : starEach (e :: []) X.env = (false, eval e X.env) :: starEach [] X.env := by rfl) (hpl : (backTo pos (starEach [] X.env)).any (·.1) = false := by rfl) :
    ME X (.Call (.Attribute o "append" apos) [e] [] pos) (xAppend mo m) := PE.wk (pe_bm PySem.F.plainAttrs_list PySem.F.slot_list_append PySem.F.type_list_append mt_append ho (pa_cons he pa_nil hs) hbase hfew hline hs hpl) fun z H Q ⟨r, w, s, h, v, h', R, S, e, C⟩ => by
  unfold xAppend at e
  split at e
  · rename_i n h1 e1
    split at e
    · rename_i hL
      split at e
      · rename_i y h2 e2
        split at e
        · rename_i xs e3
          split at e
          · rename_i hl
            simp only [Option.some.injEq, Prod.mk.injEq] at e
            obtain ⟨rfl, rfl⟩ := e
            refine ⟨r, w, s, h, _, h1, R, S, e1, fun r1 u1 H1 F1 R1 V1 => ?_⟩
            obtain ⟨a, us0, rfl, hL1⟩ := lst_here R1 V1 hL
            refine ⟨.inl ⟨rfl, _, SqL.of hL1⟩, r1, w, s, h1, y, h2, R1, S.fwd F1, e2, fun r2 u2 H2 F2 R2 V2 => ?_⟩
            obtain ⟨a', us, e4, hn2, ha, q⟩ := ref_at R2 (VR.fwd F2 _ _ V1) e3
            cases e4
            refine ⟨a, us, u2, rfl, rfl, ha, ?_, put_lst R2 hn2 (VRs.append q (VRs.one V2)) (by simp only [VR]) ((C.fwd F1 R1).fwd F2 R2) (fun _ _ z => by rw [ha] at z; cases z)⟩
            rw [← VRs.length q, ← szl]; exact hl
          · cases e
        · cases e
      · cases e
    · cases e
  · cases e
theorem me_extend {apos : Pos} (ho : ME X o mo) (he : ME X e m) (hbase : attributeBase o "extend" X.env (eval o X.env) = eval o X.env := by rfl)
    (hfew : ((backTo pos (starEach [e] X.env)).all (fun x => !x.1) && (backToKw pos (keywordEach [] X.env)).all (fun x => x.1.isSome) && decide ([e].length + ([] : List Keyword).length + (if ([] : List Keyword).isEmpty then 0 else 1) < 30)) = true := by rfl)
    (hline : (apos.endLine == pos.line) = true := by rfl) (hs : starEach (e :: []) X.env = (false, eval e X.env) :: starEach [] X.env := by rfl) (hpl : (backTo pos (starEach [] X.env)).any (·.1) = false := by rfl) :
    ME X (.Call (.Attribute o "extend" apos) [e] [] pos) (xExtend mo m) := PE.wk (pe_bm PySem.F.plainAttrs_list PySem.F.slot_list_extend PySem.F.type_list_extend mt_extend ho (pa_cons he pa_nil hs) hbase hfew hline hs hpl) fun z H Q ⟨r, w, s, h, v, h', R, S, e, C⟩ => by
  unfold xExtend at e
  split at e
  · rename_i n h1 e1
    split at e
    · rename_i hL
      split at e
      · rename_i ys h2 e2
        split at e
        · rename_i xs e3
          split at e
          · rename_i hl
            simp only [Option.some.injEq, Prod.mk.injEq] at e
            obtain ⟨rfl, rfl⟩ := e
            refine ⟨r, w, s, h, _, h1, R, S, e1, fun r1 u1 H1 F1 R1 V1 => ?_⟩
            obtain ⟨a, us0, rfl, hL1⟩ := lst_here R1 V1 hL
            refine ⟨.inl ⟨rfl, _, SqL.of hL1⟩, r1, w, s, h1, _, h2, R1, S.fwd F1, e2, fun r2 u2 H2 F2 R2 V2 => ?_⟩
            obtain ⟨a', us, e4, hn2, ha, q⟩ := ref_at R2 (VR.fwd F2 _ _ V1) e3
            cases e4
            simp only [VR] at V2
            obtain ⟨b, ws, rfl, _, hb, q2⟩ := V2
            refine ⟨a, b, us, ws, rfl, rfl, ha, hb, ?_, put_lst R2 hn2 (VRs.append q q2) (by simp only [VR]) ((C.fwd F1 R1).fwd F2 R2) (fun _ _ z => by rw [ha] at z; cases z)⟩
            rw [← VRs.length q, ← VRs.length q2, ← szl]; exact hl
          · cases e
        · cases e
      · cases e
    · cases e
  · cases e
theorem me_popAt {apos : Pos} (ho : ME X o mo) (he : ME X e m) (hbase : attributeBase o "pop" X.env (eval o X.env) = eval o X.env := by rfl)
    (hfew : ((backTo pos (starEach [e] X.env)).all (fun x => !x.1) && (backToKw pos (keywordEach [] X.env)).all (fun x => x.1.isSome) && decide ([e].length + ([] : List Keyword).length + (if ([] : List Keyword).isEmpty then 0 else 1) < 30)) = true := by rfl)
    (hline : (apos.endLine == pos.line) = true := by rfl) (hs : starEach (e :: []) X.env = (false, eval e X.env) :: starEach [] X.env := by rfl) (hpl : (backTo pos (starEach [] X.env)).any (·.1) = false := by rfl) :
    ME X (.Call (.Attribute o "pop" apos) [e] [] pos) (xPopAt mo m) := PE.wk (pe_bm PySem.F.plainAttrs_list PySem.F.slot_list_pop PySem.F.type_list_pop mt_popAt ho (pa_cons he pa_nil hs) hbase hfew hline hs hpl) fun z H Q ⟨r, w, s, h, v, h', R, S, e, C⟩ => by
  unfold xPopAt at e
  split at e
  · rename_i n h1 e1
    split at e
    · rename_i hL
      split at e
      · rename_i i h2 e2
        split at e
        · rename_i xs e3
          split at e
          · rename_i hl
            split at e
            · rename_i j e4
              split at e
              · rename_i y e5
                simp only [Option.some.injEq, Prod.mk.injEq] at e
                obtain ⟨rfl, rfl⟩ := e
                refine ⟨r, w, s, h, _, h1, R, S, e1, fun r1 u1 H1 F1 R1 V1 => ?_⟩
                obtain ⟨a, us0, rfl, hL1⟩ := lst_here R1 V1 hL
                refine ⟨.inl ⟨rfl, _, SqL.of hL1⟩, r1, w, s, h1, _, h2, R1, S.fwd F1, e2, fun r2 u2 H2 F2 R2 V2 => ?_⟩
                obtain ⟨a', us, e6, hn2, ha, q⟩ := ref_at R2 (VR.fwd F2 _ _ V1) e3
                cases e6
                simp only [VR] at V2
                subst V2
                obtain ⟨u, q1, q2⟩ := VRs.get q e5
                refine ⟨a, us, i, j, u, rfl, rfl, ha, by omega, by omega, ?_, q1, put_lst R2 hn2 (VRs.eraseIdx j q) q2 ((C.fwd F1 R1).fwd F2 R2) (fun _ _ z => by rw [ha] at z; cases z)⟩
                rw [← VRs.length q]
                exact (ixN_seq (show ixN xs.length i = some j from e4)).1
              · cases e
            · cases e
          · cases e
        · cases e
      · cases e
    · cases e
  · cases e
end
end Ew
end

section
set_option Elab.async false
set_option linter.all false
set_option maxRecDepth 100000
set_option maxHeartbeats 4000000
/-! EwF: statements, loops, comprehensions, defs. -/
namespace Ew
open PySem PySem.Spec PyProof.Rows L2
variable [Tabs]
section
variable {K : PySem.W.Frag} {X : Cx} {e a b c o i : Expr} {m ma mb mc mo mi : XE} {pos p : Pos} {es : List Expr} {mas : XA} {st : Stmt} {sts sts2 : List Stmt} {x y : XS} {ta : XT} {g : XG} {gs : XGs} {tg : Expr}
theorem ms_nil : MSs X [] sNext := PSs.wk pss_nil fun D z H ⟨r, w, s, h, f, s', h', R, S, e, C⟩ => by
  simp only [sNext, Option.some.injEq, Prod.mk.injEq] at e
  obtain ⟨rfl, rfl, rfl⟩ := e
  exact ContS.now C R S
theorem ms_one (h : MS X st x) : MSs X [st] x := pss_one h
theorem ms_cons (h1 : MS X st x) (h2 : MSs X sts y) : MSs X (st :: sts) (sSeq x y) := PSs.wk (pss_cons h1 h2) fun D z H ⟨r, w, s, h, f, s', h', R, S, e, C⟩ => by
  unfold sSeq at e
  cases e1 : x s h with
  | none => simp [e1] at e
  | some p1 =>
    obtain ⟨f1, s1, h1⟩ := p1
    cases f1 with
    | nx =>
      simp only [e1] at e
      exact ⟨r, w, s, h, .nx, s1, h1, R, S, e1, fun r1 z1 H1 F1 R1 S1 => ⟨r1, w, s1, h1, f, s', h', R1, S1, e, EndS.fwd C F1 R1⟩⟩
    | rt v =>
      simp only [e1, Option.some.injEq, Prod.mk.injEq] at e
      obtain ⟨rfl, rfl, rfl⟩ := e
      exact ⟨r, w, s, h, .rt v, s1, h1, R, S, e1, C⟩
    | bk =>
      simp only [e1, Option.some.injEq, Prod.mk.injEq] at e
      obtain ⟨rfl, rfl, rfl⟩ := e
      exact ⟨r, w, s, h, .bk, s1, h1, R, S, e1, C⟩
    | ct =>
      simp only [e1, Option.some.injEq, Prod.mk.injEq] at e
      obtain ⟨rfl, rfl, rfl⟩ := e
      exact ⟨r, w, s, h, .ct, s1, h1, R, S, e1, C⟩
theorem ms_expr (he : ME X e m) (hs : swapsWith e none pos.line X.env = pure false := by rfl) : MS X (.Expr e pos) (sExpr m) := PS.wk (ps_expr he hs) fun D z H ⟨r, w, s, h, f, s', h', R, S, e, C⟩ => by
  unfold sExpr at e
  cases e1 : m s h with
  | none => simp [e1] at e
  | some p1 =>
    obtain ⟨v, h1⟩ := p1
    simp only [e1, Option.some.injEq, Prod.mk.injEq] at e
    obtain ⟨rfl, rfl, rfl⟩ := e
    exact ⟨r, w, s, h, v, h1, R, S, e1, fun r1 u H1 F1 R1 V1 => C r1 z H1 F1 R1 (S.fwd F1)⟩
theorem ms_ret (he : ME X e m) : MS X (.Return (some e) pos) (sRet m) := PS.wk (ps_ret he) fun D z H ⟨r, w, s, h, f, s', h', R, S, e, C⟩ => by
  unfold sRet at e
  cases e1 : m s h with
  | none => simp [e1] at e
  | some p1 =>
    obtain ⟨v, h1⟩ := p1
    simp only [e1, Option.some.injEq, Prod.mk.injEq] at e
    obtain ⟨rfl, rfl, rfl⟩ := e
    exact ⟨r, w, s, h, v, h1, R, S, e1, C⟩
theorem ms_if (hc : MT X c ta) (h1 : MSs X sts x) (h2 : MSs X sts2 y) : MS X (.If c sts sts2 pos) (sIf ta x y) := PS.wk (ps_if hc h1 h2) fun D z H ⟨r, w, s, h, f, s', h', R, S, e, C⟩ => by
  unfold sIf at e
  split at e
  · cases e
  · rename_i h1 e1
    exact ⟨r, w, s, h, _, h1, R, S, e1, fun r1 H1 F1 R1 => iteT ⟨r1, w, s, h1, f, s', h', R1, S.fwd F1, e, EndS.fwd C F1 R1⟩⟩
  · rename_i h1 e1
    exact ⟨r, w, s, h, _, h1, R, S, e1, fun r1 H1 F1 R1 => iteF ⟨r1, w, s, h1, f, s', h', R1, S.fwd F1, e, EndS.fwd C F1 R1⟩⟩
/-! ### targets -/
theorem PG.wk {t t' : TG} (h : PG X e t) (k : ∀ v z H Q, t' v z H Q → t v z H Q) : PG X e t' := ⟨fun pins s z H v u Q I r q => h.run pins s z H v u Q I r (k v z H Q q)⟩
theorem PGs.wk {t t' : TGs} (h : PGs X es t) (k : ∀ v z H Q, t' v z H Q → t v z H Q) : PGs X es t' := ⟨fun pins s z H v u Q I r q => h.run pins s z H v u Q I r (k v z H Q q)⟩
theorem mg_nm {n : Nat} {t : Str} (hN : X.N.Nodup) (hi : X.N[n]? = some t := by rfl) (hx : Loc X.env.scope t := by first | exact .inl rfl | exact .inr rfl) (hf : X.fn t = true ∨ X.env.scope.names.lookup t = some .local := by first | exact .inl rfl | exact .inr rfl) : MG X (.Name t pos) (gNm n) :=
  PG.wk (pg_name hN hi hx hf) fun u z H Q ⟨r, w, s, h, v, s', h', R, S, V, e, C⟩ => by
  simp only [gNm, Option.some.injEq, Prod.mk.injEq] at e
  obtain ⟨rfl, rfl⟩ := e
  exact C.now R (S.set n V)
theorem mgs_nil : MGs X [] gsNil := PGs.wk pgs_nil fun u z H Q ⟨r, w, s, h, v, s', h', R, S, V, e, C⟩ => by
  unfold gsNil at e
  split at e
  · simp only [Option.some.injEq, Prod.mk.injEq] at e
    obtain ⟨rfl, rfl⟩ := e
    simp only [VRs] at V
    exact ⟨V, C.now R S⟩
  · cases e
theorem mgs_cons (h1 : MG X e g) (h2 : MGs X es gs) (hs : (assignEach (e :: es) X.env).map (·.2) = assign e X.env :: (assignEach es X.env).map (·.2) := by rfl) : MGs X (e :: es) (gsCons g gs) := PGs.wk (pgs_cons h1 h2 hs) fun u z H Q ⟨r, w, s, h, v, s', h', R, S, V, e, C⟩ => by
  unfold gsCons at e
  split at e
  · rename_i v1 vs
    cases e1 : g v1 s h with
    | none => simp [e1] at e
    | some p1 =>
      obtain ⟨s1, h1⟩ := p1
      simp only [e1] at e
      simp only [VRs] at V
      obtain ⟨u1, t, rfl, V1, V2⟩ := V
      exact ⟨u1, t, rfl, r, w, s, h, v1, s1, h1, R, S, V1, e1, fun r1 z1 H1 F1 R1 S1 => ⟨r1, w, s1, h1, vs, s', h', R1, S1, VRs.fwd F1 _ _ V2, e, C.fwd F1 R1⟩⟩
  · cases e
theorem mg_tup {k n : Nat} (h : MGs X es gs) (hn : (assignEach es X.env).length = n := by rfl) (hst : (assignEach es X.env).findIdx? (·.1) = none := by rfl) (hc : X.calm = true := by rfl) : MG X (.Tuple es k pos) (gTp n gs) := PG.wk (pg_tup hc h hn hst) fun u z H Q ⟨r, w, s, h, v, s', h', R, S, V, e, C⟩ => by
  unfold gTp at e
  split at e
  · rename_i xs
    split at e
    · rename_i hl
      simp only [VR] at V
      obtain ⟨p, us, rfl, t, q⟩ := V
      exact ⟨p, us, rfl, t.sq, by rw [← VRs.length q]; exact hl, r, w, s, h, xs, s', h', R, S, q, e, C⟩
    · cases e
  · rename_i xs
    split at e
    · rename_i hl
      simp only [VR] at V
      obtain ⟨p, us, rfl, t, q⟩ := V
      exact ⟨p, us, rfl, t.sq, by rw [← VRs.length q]; exact hl, r, w, s, h, xs, s', h', R, S, q, e, C⟩
    · cases e
  · cases e
theorem ms_asg (he : ME X e m) (hg : MG X tg g) (hs : swapsWithSole [tg] e pos.line X.env = pure false := by rfl) (hw : swappedStores [tg] e X.env = pure none := by rfl) (h1 : (assignEach [tg] X.env).map (·.2) = [assign tg X.env] := by rfl) : MS X (.Assign [tg] e pos) (sAsg m g) := PS.wk (ps_asg he hg hs hw h1) fun D z H ⟨r, w, s, h, f, s', h', R, S, e, C⟩ => by
  unfold sAsg at e
  cases e1 : m s h with
  | none => simp [e1] at e
  | some p1 =>
    obtain ⟨v, h1⟩ := p1
    simp only [e1] at e
    cases e2 : g v s h1 with
    | none => simp [e2] at e
    | some p2 =>
      obtain ⟨s1, h2⟩ := p2
      simp only [e2, Option.some.injEq, Prod.mk.injEq] at e
      obtain ⟨rfl, rfl, rfl⟩ := e
      exact ⟨r, w, s, h, v, h1, R, S, e1, fun r1 u H1 F1 R1 V1 => ⟨r1, w, s, h1, v, _, _, R1, S.fwd F1, V1, e2, ContS.fwd C F1 R1⟩⟩
/-- o[k] = e -/
theorem stM_lst {r w : List Addr} {h h' : MH} {H : Hp} {d k v : MV} {u1 u2 u3 : V} {Q : Hp → Prop} (R : Rel K r w h H) (V1 : VR K r w H d u1) (V2 : VR K r w H k u2) (V3 : VR K r w H v u3) (e : stM h d k v = some h')
    (C : ∀ r' H', Fwd r H r' H' → Rel K r' w h' H' → Q H') : (∃ p us i j, u1 = .ref p ∧ u2 = .int i ∧ H p = some (.lst us) ∧ ixN us.length i = some j ∧ Q (upd H p (.lst (us.set j u3)))) ∨ ∃ a H4, u1 = .ref a ∧ DPut H a u2 u3 H4 ∧ Q H4 := by
  unfold stM at e
  split at e
  · rename_i n
    simp only [VR] at V1
    obtain ⟨a, rfl, hn⟩ := V1
    split at e
    · rename_i xs e1
      have hc := R.at_ n a _ hn e1
      simp only [CRel] at hc
      obtain ⟨us, ha, q⟩ := hc
      split at e
      · rename_i i
        split at e
        · rename_i j e2
          simp only [Option.some.injEq] at e; subst e
          simp only [VR] at V2
          refine .inl ⟨a, us, i, j, rfl, V2, ha, by rw [← VRs.length q]; exact e2, C r _ (Fwd.put hn _ (fun _ _ z => by rw [ha] at z; cases z)) (R.put hn (c := .lst _) ?_)⟩
          simp only [CRel]
          exact ⟨_, upd_same, VRs.set j (VRs.map (Stp.put hn _) _ _ q) (VR.map (Stp.put hn _) _ _ V3)⟩
        · cases e
      · cases e
    · rename_i kvs e1
      have hc := R.at_ n a _ hn e1
      simp only [CRel] at hc
      obtain ⟨us, ha, q⟩ := hc
      split at e
      · rename_i kk e2
        split at e
        · rename_i hl
          simp only [Option.some.injEq] at e; subst e
          have := key_kV V2 e2
          subst this
          refine .inr ⟨a, _, rfl, .inl ⟨us, kk, ha, rfl, by rw [← VRk.length q, ← szl]; exact hl, rfl⟩, C r _ (Fwd.put hn _ (fun _ _ z => by rw [ha] at z; cases z)) (R.put hn (c := .dK _) ?_)⟩
          simp only [CRel]
          exact ⟨_, upd_same, VRk.put kk (VR.map (Stp.put hn _) _ _ V3) (VRk.map (Stp.put hn _) _ _ q)⟩
        · cases e
      · cases e
    · rename_i kvs e1
      have hc := R.at_ n a _ hn e1
      simp only [CRel] at hc
      obtain ⟨us, ha, q⟩ := hc
      split at e
      · rename_i ks
        split at e
        · rename_i kk e2
          split at e
          · rename_i hl
            simp only [Option.some.injEq] at e; subst e
            simp only [VR] at V2
            obtain ⟨b, ws, rfl, t, q2⟩ := V2
            have := keys_kV q2 e2
            subst this
            refine .inr ⟨a, _, rfl, .inr ⟨us, kk, b, ha, rfl, t.2, by rw [← VRt.length q, ← szl]; exact hl, rfl⟩, C r _ (Fwd.put hn _ (fun _ _ z => by rw [ha] at z; cases z)) (R.put hn (c := .dT _) ?_)⟩
            simp only [CRel]
            exact ⟨_, upd_same, VRt.put kk (VR.map (Stp.put hn _) _ _ V3) (VRt.map (Stp.put hn _) _ _ q)⟩
          · cases e
        · cases e
      · cases e
    · cases e
  · cases e
theorem ms_put {k : Nat} {tpos : Pos} (hr : Room k X.A) (ho : ME X o mo) (hi : ME X i mi) (he : ME X e m) (hs : swapsWithSole [.Subscript o i tpos] e pos.line X.env = pure false := by rfl) (hw : swappedStores [.Subscript o i tpos] e X.env = pure none := by rfl)
    (ha : ∀ v, assign (.Subscript o i tpos) X.env v = (do
      let ov ← holding [v] (eval o X.env)
      let iv ← holding [v, ov] (eval i X.env)
      standAt tpos
      holding [v, ov, iv] (setItem ov iv v)
      release [v, ov, iv] []) := by intro _; rfl) (hs2 : swapsWith e (some (.Subscript o i tpos)) pos.line X.env = pure false := by rfl) : MS X (.Assign [.Subscript o i tpos] e pos) (sPut mo mi m) :=
  PS.wk (PS.or2 (ps_asg he (pg_sub ho hi set_list ha) hs hw) (ps_dput (hu_of hr) ho hi he hs2)) fun D z H ⟨r, w, s, h, f, s', h', R, S, e, C⟩ => by
  unfold sPut at e
  cases e1 : m s h with
  | none => simp [e1] at e
  | some p1 =>
    obtain ⟨v, h1⟩ := p1
    simp only [e1] at e
    cases e2 : mo s h1 with
    | none => simp [e2] at e
    | some p2 =>
      obtain ⟨d, h2⟩ := p2
      simp only [e2] at e
      cases e3 : mi s h2 with
      | none => simp [e3] at e
      | some p3 =>
        obtain ⟨kk, h3⟩ := p3
        simp only [e3] at e
        cases e4 : stM h3 d kk v with
        | none => simp [e4] at e
        | some h4 =>
          simp only [e4, Option.some.injEq, Prod.mk.injEq] at e
          obtain ⟨rfl, rfl, rfl⟩ := e
          -- which of the two rules, by the cell
          have key : ∀ r3 H3 u1 u2 u3, Fwd r H r3 H3 → Rel X.K r3 w h3 H3 → VR X.K r3 w H3 d u1 → VR X.K r3 w H3 kk u2 → VR X.K r3 w H3 v u3 → (rSetL u1 u2 u3 H3 fun H4 => D.nx z H4) ∨ ∃ a H4, u1 = .ref a ∧ DPut H3 a u2 u3 H4 ∧ D.nx z H4 := fun r3 H3 u1 u2 u3 F3 R3 V1 V2 V3 => by
            rcases stM_lst (Q := fun H4 => D.nx z H4) R3 V1 V2 V3 e4 (fun r4 H4 F4 R4 => C r4 z H4 (F3.tr R3 F4) R4 (S.fwd (F3.tr R3 F4))) with ⟨p, us, i, j, h1, h2, h3, h4, h5⟩ | q
            · exact .inl ⟨p, us, i, j, h1, h2, h3, h4, h5⟩
            · exact .inr q
          by_cases isL : ∃ n xs, d = .ref n ∧ h3[n]? = some (.lst xs)
          · refine .inl ⟨r, w, s, h, v, h1, R, S, e1, fun r1 u3 H1 F1 R1 V3 => ⟨r1, w, s, h1, d, h2, R1, S.fwd F1, e2, fun r2 u1 H2 F2 R2 V1 => ⟨r2, w, s, h2, kk, h3, R2, (S.fwd F1).fwd F2, e3, fun r3 u2 H3 F3 R3 V2 => ?_⟩⟩⟩
            rcases key r3 H3 u1 u2 u3 ((F1.tr R1 F2).tr R2 F3) R3 (VR.fwd F3 _ _ V1) V2 (VR.fwd F3 _ _ (VR.fwd F2 _ _ V3)) with q | ⟨a, H4, rfl, q, _⟩
            · exact q
            · obtain ⟨n, xs, rfl, e5⟩ := isL
              obtain ⟨a', us, e6, _, ha, _⟩ := ref_at R3 (VR.fwd F3 _ _ V1) e5
              cases e6
              rcases q with ⟨_, _, q, _⟩ | ⟨_, _, _, q, _⟩ <;> (rw [ha] at q; cases q)
          · refine .inr ⟨r, w, s, h, v, h1, R, S, e1, fun r1 u3 H1 F1 R1 V3 => ⟨r1, w, s, h1, d, h2, R1, S.fwd F1, e2, fun r2 u1 H2 F2 R2 V1 => ⟨r2, w, s, h2, kk, h3, R2, (S.fwd F1).fwd F2, e3, fun r3 u2 H3 F3 R3 V2 => ?_⟩⟩⟩
            rcases key r3 H3 u1 u2 u3 ((F1.tr R1 F2).tr R2 F3) R3 (VR.fwd F3 _ _ V1) V2 (VR.fwd F3 _ _ (VR.fwd F2 _ _ V3)) with ⟨p, us, i, j, h1, h2, ha, _⟩ | q
            · exfalso
              unfold stM at e4
              split at e4
              · rename_i n
                split at e4
                · rename_i xs e5; exact isL ⟨n, xs, rfl, e5⟩
                · rename_i xs e5
                  have V1' := VR.fwd F3 _ _ V1
                  simp only [VR] at V1'
                  obtain ⟨a, rfl, hn⟩ := V1'
                  cases h1
                  have hc := R3.at_ n _ _ hn e5
                  simp only [CRel] at hc
                  obtain ⟨us, q, _⟩ := hc
                  rw [ha] at q; cases q
                · rename_i xs e5
                  have V1' := VR.fwd F3 _ _ V1
                  simp only [VR] at V1'
                  obtain ⟨a, rfl, hn⟩ := V1'
                  cases h1
                  have hc := R3.at_ n _ _ hn e5
                  simp only [CRel] at hc
                  obtain ⟨us, q, _⟩ := hc
                  rw [ha] at q; cases q
                · cases e4
              · cases e4
            · exact q
/-- a, b = e1, e2 -/
theorem ms_par {n1 n2 : Nat} {t1 t2 : Str} {px py pt : Pos} {kt k2 pt2} (hN : X.N.Nodup) (ha : ME X a ma) (hb : ME X b mb) (hi : X.N[n1]? = some t1 := by rfl) (hj : X.N[n2]? = some t2 := by rfl) (hij : n1 ≠ n2 := by decide)
    (hx : X.env.scope.names.lookup t1 = some .local := by rfl) (hy : X.env.scope.names.lookup t2 = some .local := by rfl) (he1 : starEach (a :: [b]) X.env = (false, eval a X.env) :: starEach [b] X.env := by rfl) (he2 : starEach (b :: []) X.env = (false, eval b X.env) :: starEach [] X.env := by rfl)
    (hw : swappedStores [.Tuple [.Name t1 px, .Name t2 py] kt pt] (.Tuple [a, b] k2 pt2) X.env = pure (some [t1, t2]) := by rfl)
    (hs : swapsWithSole [.Tuple [.Name t1 px, .Name t2 py] kt pt] (.Tuple [a, b] k2 pt2) pos.line X.env = pure false := by rfl) (hc : X.calm = true := by rfl) :
    MS X (.Assign [.Tuple [.Name t1 px, .Name t2 py] kt pt] (.Tuple [a, b] k2 pt2) pos) (sPar n1 n2 ma mb) := PS.wk (ps_par hc hN hi hj hij hx hy (pa_cons ha (pa_cons hb pa_nil he2) he1) hw hs) fun D z H ⟨r, w, s, h, f, s', h', R, S, e, C⟩ => by
  unfold sPar at e
  cases e1 : ma s h with
  | none => simp [e1] at e
  | some p1 =>
    obtain ⟨v, h1⟩ := p1
    simp only [e1] at e
    cases e2 : mb s h1 with
    | none => simp [e2] at e
    | some p2 =>
      obtain ⟨v2, h2⟩ := p2
      simp only [e2, Option.some.injEq, Prod.mk.injEq] at e
      obtain ⟨rfl, rfl, rfl⟩ := e
      exact ⟨r, w, s, h, v, h1, R, S, e1, fun r1 u1 H1 F1 R1 V1 => ⟨r1, w, s, h1, v2, h2, R1, S.fwd F1, e2, fun r2 u2 H2 F2 R2 V2 => ⟨u1, u2, rfl, C r2 _ H2 (F1.tr R1 F2) R2 (((S.fwd F1).fwd F2).set n1 (VR.fwd F2 _ _ V1) |>.set n2 V2)⟩⟩⟩
/-! ### while -/
theorem ms_while (hc : MT X c ta) (hb : MSs X sts x) (hp : PassesOwn (model X.prog X.w) X.A X.env X.xe := by exact PassesOwn.never) : MS X (.While c sts [] pos) (sWhile ta x) := PS.wk (ps_while hp hc hb) fun D z H ⟨r, w, s, h, f, s', h', R, S, e, C⟩ => by
  obtain ⟨turns, e⟩ := fuel_at e
  refine ⟨fun n z H => ∃ r w s h f s' h', Rel X.K r w h H ∧ SR X.K r w H s z ∧ whileGo ta x n s h = some (f, s', h') ∧ EndS X.K r w h' H s' D f, ⟨turns, r, w, s, h, f, s', h', R, S, e, C⟩, ?_⟩
  rintro n z H ⟨r, w, s, h, f, s', h', R, S, e, C⟩
  cases n with
  | zero => simp [whileGo] at e
  | succ n =>
    simp only [whileGo] at e
    split at e
    · cases e
    · rename_i h1 e1
      simp only [Option.some.injEq, Prod.mk.injEq] at e
      obtain ⟨rfl, rfl, rfl⟩ := e
      exact ⟨r, w, s, h, _, h1, R, S, e1, fun r1 H1 F1 R1 => iteF (C r1 z H1 F1 R1 (S.fwd F1))⟩
    · rename_i h1 e1
      refine ⟨r, w, s, h, _, h1, R, S, e1, fun r1 H1 F1 R1 => iteT ⟨fun z' H' => ∃ r w s h f s' h', Rel X.K r w h H' ∧ SR X.K r w H' s z' ∧ whileGo ta x n s h = some (f, s', h') ∧ EndS X.K r w h' H' s' D f, fun z' H' q => ⟨n, Nat.lt_succ_self n, q⟩, ?_⟩⟩
      split at e
      · rename_i s2 h2 e2
        exact ⟨r1, w, s, h1, .nx, s2, h2, R1, S.fwd F1, e2, fun r2 z2 H2 F2 R2 S2 => ⟨r2, w, s2, h2, f, s', h', R2, S2, e, EndS.fwd C (F1.tr R1 F2) R2⟩⟩
      · rename_i s2 h2 e2
        exact ⟨r1, w, s, h1, .ct, s2, h2, R1, S.fwd F1, e2, fun r2 z2 H2 F2 R2 S2 => ⟨r2, w, s2, h2, f, s', h', R2, S2, e, EndS.fwd C (F1.tr R1 F2) R2⟩⟩
      · rename_i s2 h2 e2
        simp only [Option.some.injEq, Prod.mk.injEq] at e
        obtain ⟨rfl, rfl, rfl⟩ := e
        exact ⟨r1, w, s, h1, .bk, s2, h2, R1, S.fwd F1, e2, ContS.fwd C F1 R1⟩
      · rename_i v s2 h2 e2
        simp only [Option.some.injEq, Prod.mk.injEq] at e
        obtain ⟨rfl, rfl, rfl⟩ := e
        exact ⟨r1, w, s, h1, .rt v, s2, h2, R1, S.fwd F1, e2, Cont.fwd C F1 R1⟩
      · cases e
end
end Ew
end

section
set_option Elab.async false
set_option linter.all false
set_option maxRecDepth 100000
set_option maxHeartbeats 4000000
/-! EwG: for, comprehensions, defs and their calls. -/
namespace Ew
open PySem PySem.Spec PyProof.Rows L2
variable [Tabs]
section
variable (K : PySem.W.Frag)
/-- what an iterator yields, turn by turn -/
structure Walks (J : It) (xs : List MV) (r w : List Addr) (H : Hp) : Prop where
  at_ : ∀ i r1 w1 H1 h1, Fwd r H r1 H1 → Stp r w H r1 w1 H1 → Rel K r1 w1 h1 H1 → i < xs.length → J.go i H1 ∧ ∀ x H2, J.yld i H1 x H2 → Fwd r1 H1 r1 H2 ∧ Rel K r1 w1 h1 H2 ∧ ∃ v, xs[i]? = some v ∧ VR K r1 w1 H2 v x
  stop : ∀ i r1 w1 H1 h1, Fwd r H r1 H1 → Stp r w H r1 w1 H1 → Rel K r1 w1 h1 H1 → xs.length = i → J.stop i H1
structure WalksC (J : It) (n : Nat) (r w : List Addr) (H : Hp) : Prop where
  at_ : ∀ i r1 w1 H1 h1 ys y, Stp r w H r1 w1 H1 → Rel K r1 w1 h1 H1 → h1[n]? = some (.lst ys) → ys[i]? = some y → J.go i H1 ∧ ∀ x H2, J.yld i H1 x H2 → H2 = H1 ∧ VR K r1 w1 H2 y x
  stop : ∀ i r1 w1 H1 h1 ys, Stp r w H r1 w1 H1 → Rel K r1 w1 h1 H1 → h1[n]? = some (.lst ys) → ys[i]? = none → J.stop i H1
def WalkI (it : MI) (J : It) (r w : List Addr) (H : Hp) : Prop := match it with
  | .vals xs => Walks K J xs r w H
  | .cell n => WalksC K J n r w H
def tI (m : XI) : TI := fun z H R => ∃ r w s h it h', Rel K r w h H ∧ SR K r w H s z ∧ m s h = some (it, h') ∧ ∀ r' J H', Fwd r H r' H' → Rel K r' w h' H' → WalkI K it J r' w H' → R J H'
end
abbrev MII (X : Cx) (tg e : Expr) (m : XI) : Prop := PI X tg e (tI X.K m)
theorem PI.wk {X : Cx} {tg e : Expr} {t t' : TI} (h : PI X tg e t) (k : ∀ z H R, t' z H R → t z H R) : PI X tg e t' := ⟨fun pins s z H R I q => h.run pins s z H R I (k z H R q)⟩
section
variable {K : PySem.W.Frag} {X : Cx} {e a b c o i : Expr} {m ma mb mc mo mi : XE} {pos p : Pos} {es : List Expr} {mas : XA} {st : Stmt} {sts sts2 : List Stmt} {x y : XS} {ta : XT} {g : XG} {gs : XGs} {tg iter : Expr} {it : XI}
theorem walks_list (K : PySem.W.Frag) {r w : List Addr} {H : Hp} {h : MH} {v : MV} {a : Addr} {xs : List MV} (R : Rel K r w h H) (V : VR K r w H v (.ref a)) (nr : ∀ n, v ≠ .ref n) (e : listOf h v = some xs) : Walks K (Itl K a) xs r w H := by
  have get : ∀ r1 w1 H1 h1, Stp r w H r1 w1 H1 → Rel K r1 w1 h1 H1 → ∃ us, SqL K H1 a us ∧ VRs K r1 w1 H1 xs us := fun r1 w1 H1 h1 F R1 => by
    have V1 := VR.map F _ _ V
    have e1 : listOf h1 v = some xs := by
      cases v <;> first | exact e | exact absurd rfl (nr _)
    obtain ⟨p, us, ep, sq, q⟩ := list_sq K R1 V1 e1
    cases ep
    exact ⟨us, sq, q⟩
  refine ⟨fun i r1 w1 H1 h1 _ F R1 hi => ?_, fun i r1 w1 H1 h1 _ F R1 hi => ?_⟩
  · obtain ⟨us, sq, q⟩ := get r1 w1 H1 h1 F R1
    have e1 : xs[i]? = some xs[i] := List.getElem?_eq_getElem hi
    obtain ⟨u, q1, q2⟩ := VRs.get q e1
    refine ⟨⟨us, u, sq, q1⟩, fun x H2 ⟨eH, hx⟩ => ?_⟩
    subst eH
    have := hx us sq
    rw [q1] at this
    cases this
    exact ⟨Fwd.refl _ _, R1, _, e1, q2⟩
  · obtain ⟨us, sq, q⟩ := get r1 w1 H1 h1 F R1
    exact ⟨us, sq, by rw [← VRs.length q]; exact Nat.le_of_eq hi⟩
theorem walks_tv (K : PySem.W.Frag) {r w : List Addr} {H : Hp} {h : MH} {a : Addr} {v : MV} {xs : List MV} (R : Rel K r w h H) (V : VR K r w H v (.ref a)) (hv : v = .tup xs ∨ v = .row xs) : Walks K (Itt K a) xs r w H := by
  have get : ∀ r1 w1 H1 h1, Stp r w H r1 w1 H1 → Rel K r1 w1 h1 H1 → ∃ us, SqT K H1 a us ∧ VRs K r1 w1 H1 xs us := fun r1 w1 H1 h1 F R1 => by
    have V1 := VR.map F _ _ V
    rcases hv with rfl | rfl
    · simp only [VR] at V1
      obtain ⟨p, us, ep, t, q⟩ := V1
      cases ep
      exact ⟨us, t.sq, q⟩
    · simp only [VR] at V1
      obtain ⟨p, us, ep, t, q⟩ := V1
      cases ep
      exact ⟨us, t.sq, q⟩
  refine ⟨fun i r1 w1 H1 h1 _ F R1 hi => ?_, fun i r1 w1 H1 h1 _ F R1 hi => ?_⟩
  · obtain ⟨us, sq, q⟩ := get r1 w1 H1 h1 F R1
    have e1 : xs[i]? = some xs[i] := List.getElem?_eq_getElem hi
    obtain ⟨u, q1, q2⟩ := VRs.get q e1
    refine ⟨⟨us, u, sq, q1⟩, fun x H2 ⟨eH, hx⟩ => ?_⟩
    subst eH
    have := hx us sq
    rw [q1] at this
    cases this
    exact ⟨Fwd.refl _ _, R1, _, e1, q2⟩
  · obtain ⟨us, sq, q⟩ := get r1 w1 H1 h1 F R1
    exact ⟨us, sq, by rw [← VRs.length q]; exact Nat.le_of_eq hi⟩
theorem walks_cell (K : PySem.W.Frag) {r w : List Addr} {H : Hp} {h : MH} {a : Addr} {n : Nat} (R : Rel K r w h H) (hn : r[n]? = some a) : WalksC K (Itl K a) n r w H := by
  have get : ∀ r1 w1 H1 h1 ys, Stp r w H r1 w1 H1 → Rel K r1 w1 h1 H1 → h1[n]? = some (.lst ys) → ∃ us, SqL K H1 a us ∧ VRs K r1 w1 H1 ys us := fun r1 w1 H1 h1 ys F R1 e1 => by
    have hc := R1.at_ n a _ (F.ix _ _ hn) e1
    simp only [CRel] at hc
    obtain ⟨us, h1, h2⟩ := hc
    exact ⟨us, .inl (.inl h1), h2⟩
  refine ⟨fun i r1 w1 H1 h1 ys y F R1 e1 e2 => ?_, fun i r1 w1 H1 h1 ys F R1 e1 e2 => ?_⟩
  · obtain ⟨us, sq, q⟩ := get r1 w1 H1 h1 ys F R1 e1
    obtain ⟨u, q1, q2⟩ := VRs.get q e2
    refine ⟨⟨us, u, sq, q1⟩, fun x H2 ⟨eH, hx⟩ => ?_⟩
    subst eH
    have := hx us sq
    rw [q1] at this
    cases this
    exact ⟨rfl, q2⟩
  · obtain ⟨us, sq, q⟩ := get r1 w1 H1 h1 ys F R1 e1
    exact ⟨us, sq, by rw [← VRs.length q]; exact List.getElem?_eq_none_iff.mp e2⟩
/-- a list, a tuple that is walked -/
theorem mi_seq (he : ME X e m) : MII X tg e (iSeq m) := PI.wk (PI.or2 (pi_list he) (pi_tup he)) fun z H Q ⟨r, w, s, h, it, h', R, S, e, C⟩ => by
  unfold iSeq at e
  split at e
  · rename_i n h1 e1
    split at e
    · rename_i ys e2
      simp only [Option.some.injEq, Prod.mk.injEq] at e
      obtain ⟨rfl, rfl⟩ := e
      refine .inl ⟨r, w, s, h, _, h1, R, S, e1, fun r1 u H1 F1 R1 V1 => ?_⟩
      obtain ⟨a, us, rfl, hn, ha, q⟩ := ref_at R1 V1 e2
      exact ⟨a, rfl, ⟨us, SqL.of ha⟩, C r1 _ H1 F1 R1 (walks_cell X.K R1 hn)⟩
    · cases e
  · rename_i v h1 nr e1
    split at e
    · rename_i xs e2
      simp only [Option.some.injEq, Prod.mk.injEq] at e
      obtain ⟨rfl, rfl⟩ := e
      by_cases ht : ∃ ys, v = .tup ys ∨ v = .row ys
      · obtain ⟨ys, ht⟩ := ht
        obtain rfl : ys = xs := by rcases ht with rfl | rfl <;> simpa [seqOf] using e2
        refine .inr ⟨r, w, s, h, _, h1, R, S, e1, fun r1 u H1 F1 R1 V1 => ?_⟩
        have V1' := V1
        obtain ⟨a, us, rfl, sq⟩ : ∃ a us, u = .ref a ∧ SqT X.K H1 a us := by
          rcases ht with rfl | rfl
          · simp only [VR] at V1'
            obtain ⟨a, us, e, t, _⟩ := V1'
            exact ⟨a, us, e, t.sq⟩
          · simp only [VR] at V1'
            obtain ⟨a, us, e, t, _⟩ := V1'
            exact ⟨a, us, e, t.sq⟩
        exact ⟨a, rfl, ⟨us, sq⟩, C r1 _ H1 F1 R1 (walks_tv X.K R1 V1 ht)⟩
      · have e3 : listOf h1 v = some xs := by
          cases v <;> first | exact absurd ⟨_, .inl rfl⟩ ht | exact absurd ⟨_, .inr rfl⟩ ht | simpa [seqOf] using e2
        refine .inl ⟨r, w, s, h, _, h1, R, S, e1, fun r1 u H1 F1 R1 V1 => ?_⟩
        obtain ⟨a, us, rfl, sq, q⟩ := list_sq X.K R1 V1 e3
        exact ⟨a, rfl, ⟨us, sq⟩, C r1 _ H1 F1 R1 (walks_list X.K R1 V1 (fun n en => nr n (by rw [en])) e3)⟩
    · cases e
  · cases e
theorem rngM_at {lo : Int} {n i : Nat} (hi : i < n) : (rngM lo n)[i]? = some (.int (lo + (i : Nat))) := by
  unfold rngM
  rw [List.getElem?_map, List.getElem?_range hi]
  rfl
theorem walks_rng {lo : Int} {n : Nat} {r w : List Addr} {H : Hp} : Walks K (Itr lo n) (rngM lo n) r w H := by
  have hl : (rngM lo n).length = n := by simp [rngM]
  refine ⟨fun i r1 w1 H1 h1 _ F R1 hi => ?_, fun i r1 w1 H1 h1 _ F R1 hi => ?_⟩
  · rw [hl] at hi
    refine ⟨hi, fun x H2 ⟨eH, hx⟩ => ?_⟩
    subst eH hx
    exact ⟨Fwd.refl _ _, R1, _, rngM_at hi, by simp only [VR]⟩
  · rw [hl] at hi
    exact Nat.le_of_eq hi
theorem mi_range1 (hm : X.mg "range" = none) (he : ME X e m) (hg : Gl X "range" := by rfl) (hs : starEach [e] X.env = [(false, eval e X.env)] := by rfl) : MII X tg (.Call (.Name "range" p) [e] [] pos) (iRange1 m) :=
  PI.wk (pi_range1 hg hm (pa_cons he pa_nil hs) hs) fun z H Q ⟨r, w, s, h, it, h', R, S, e, C⟩ => by
  unfold iRange1 at e
  split at e
  · rename_i j h1 e1
    split at e
    · rename_i hj
      simp only [Option.some.injEq, Prod.mk.injEq] at e
      obtain ⟨rfl, rfl⟩ := e
      refine ⟨r, w, s, h, _, h1, R, S, e1, fun r1 u H1 F1 R1 V1 => ?_⟩
      simp only [VR] at V1
      subst V1
      exact ⟨j, rfl, hj.1, hj.2, C r1 _ H1 F1 R1 walks_rng⟩
    · cases e
  · cases e
theorem mi_range2 (hm : X.mg "range" = none) (ha : ME X a ma) (hb : ME X b mb) (hg : Gl X "range" := by rfl) (hs : starEach [a, b] X.env = [(false, eval a X.env), (false, eval b X.env)] := by rfl) (hs2 : starEach [b] X.env = [(false, eval b X.env)] := by rfl)
    (hs3 : starEach (a :: [b]) X.env = (false, eval a X.env) :: starEach [b] X.env := by rfl) : MII X tg (.Call (.Name "range" p) [a, b] [] pos) (iRange2 ma mb) :=
  PI.wk (pi_range2 hg hm (pa_cons ha (pa_cons hb pa_nil hs2) hs3) hs hs2) fun z H Q ⟨r, w, s, h, it, h', R, S, e, C⟩ => by
  unfold iRange2 at e
  split at e
  · rename_i i h1 e1
    split at e
    · rename_i j h2 e2
      split at e
      · rename_i hj
        simp only [Option.some.injEq, Prod.mk.injEq] at e
        obtain ⟨rfl, rfl⟩ := e
        refine ⟨r, w, s, h, _, h1, R, S, e1, fun r1 u1 H1 F1 R1 V1 => ⟨r1, w, s, h1, _, h2, R1, S.fwd F1, e2, fun r2 u2 H2 F2 R2 V2 => ?_⟩⟩
        simp only [VR] at V1 V2
        subst V1 V2
        exact ⟨i, j, rfl, hj, C r2 _ H2 (F1.tr R1 F2) R2 walks_rng⟩
      · cases e
    · cases e
  · cases e
/-! ### for -/
theorem for_vals {J : It} {xs : List MV} {tb : TS} {D : Ends} {z : L2.St} {r w : List Addr} {s : SM} {h : MH} {H : Hp} {f : Fl} {s' : SM} {h' : MH} (Wk : Walks K J xs r w H) (R : Rel K r w h H) (S : SR K r w H s z) (e : forGo g x xs s h = some (f, s', h')) (C : EndS K r w h' H s' D f) :
    ∃ W : Nat → Nat → L2.St → Hp → Prop, (∃ m, W 0 m z H) ∧ ∀ i m z H, W i m z H →
      (J.stop i H ∧ D.nx z H) ∨ (J.go i H ∧ ∃ N : L2.St → Hp → Prop, (∀ z' H', N z' H' → ∃ m', m' < m ∧ W (i + 1) m' z' H') ∧ ∀ u H', J.yld i H u H' → tG K g u z H' fun z2 H2 => tS K x { D with nx := N, ct := N, bk := D.nx } z2 H2) := by
  have W0 : Nat → L2.St → Hp → Prop := fun i z1 H1 => True
  refine ⟨fun i n z1 H1 => n = xs.length - i ∧ i ≤ xs.length ∧ ∃ r1 s1 h1, Fwd r H r1 H1 ∧ Rel K r1 w h1 H1 ∧ SR K r1 w H1 s1 z1 ∧ forGo g x (xs.drop i) s1 h1 = some (f, s', h'),
    ⟨_, rfl, Nat.zero_le _, r, s, h, Fwd.refl r H, R, S, by simpa using e⟩, ?_⟩
  rintro i n z1 H1 ⟨rfl, hi, r1, s1, h1, F1, R1, S1, e1⟩
  by_cases hl : i < xs.length
  · refine .inr ⟨(Wk.at_ i r1 w H1 h1 F1 F1.stp R1 hl).1, fun z2 H2 => ∃ r2 s2 h2, Fwd r H r2 H2 ∧ Rel K r2 w h2 H2 ∧ SR K r2 w H2 s2 z2 ∧ forGo g x (xs.drop (i + 1)) s2 h2 = some (f, s', h'), fun z2 H2 q => ⟨xs.length - (i + 1), by omega, rfl, hl, q⟩, fun u H2 hy => ?_⟩
    obtain ⟨F2, R2, v, ev, Vv⟩ := (Wk.at_ i r1 w H1 h1 F1 F1.stp R1 hl).2 u H2 hy
    have F12 := F1.tr R1 F2
    have ed : xs.drop i = v :: xs.drop (i + 1) := by
      rw [List.drop_eq_getElem_cons hl]
      rw [List.getElem?_eq_getElem hl] at ev
      cases ev; rfl
    rw [ed] at e1
    simp only [forGo] at e1
    cases e2 : g v s1 h1 with
    | none => simp [e2] at e1
    | some p2 =>
      obtain ⟨s3, h3⟩ := p2
      simp only [e2] at e1
      refine ⟨r1, w, s1, h1, v, s3, h3, R2, S1.fwd F2, Vv, e2, fun r3 z3 H3 F3 R3 S3 => ?_⟩
      have F13 := F12.tr R2 F3
      split at e1
      · rename_i s4 h4 e4
        exact ⟨r3, w, s3, h3, .nx, s4, h4, R3, S3, e4, fun r4 z4 H4 F4 R4 S4 => ⟨r4, s4, h4, F13.tr R3 F4, R4, S4, e1⟩⟩
      · rename_i s4 h4 e4
        exact ⟨r3, w, s3, h3, .ct, s4, h4, R3, S3, e4, fun r4 z4 H4 F4 R4 S4 => ⟨r4, s4, h4, F13.tr R3 F4, R4, S4, e1⟩⟩
      · rename_i s4 h4 e4
        simp only [Option.some.injEq, Prod.mk.injEq] at e1
        obtain ⟨rfl, rfl, rfl⟩ := e1
        exact ⟨r3, w, s3, h3, .bk, s4, h4, R3, S3, e4, ContS.fwd C F13 R3⟩
      · rename_i v4 s4 h4 e4
        simp only [Option.some.injEq, Prod.mk.injEq] at e1
        obtain ⟨rfl, rfl, rfl⟩ := e1
        exact ⟨r3, w, s3, h3, .rt v4, s4, h4, R3, S3, e4, Cont.fwd C F13 R3⟩
      · cases e1
  · have e0 : xs.drop i = [] := List.drop_eq_nil_of_le (by omega)
    rw [e0] at e1
    simp only [forGo, Option.some.injEq, Prod.mk.injEq] at e1
    obtain ⟨rfl, rfl, rfl⟩ := e1
    exact .inl ⟨Wk.stop i r1 w H1 h1 F1 F1.stp R1 (by omega), C r1 z1 H1 F1 R1 S1⟩
theorem for_cell {J : It} {n : Nat} {D : Ends} {z : L2.St} {r w : List Addr} {s : SM} {h : MH} {H : Hp} {f : Fl} {s' : SM} {h' : MH} {t : Nat} (Wk : WalksC K J n r w H) (R : Rel K r w h H) (S : SR K r w H s z) (e : forCell g x n t 0 s h = some (f, s', h')) (C : EndS K r w h' H s' D f) :
    ∃ W : Nat → Nat → L2.St → Hp → Prop, (∃ m, W 0 m z H) ∧ ∀ i m z H, W i m z H →
      (J.stop i H ∧ D.nx z H) ∨ (J.go i H ∧ ∃ N : L2.St → Hp → Prop, (∀ z' H', N z' H' → ∃ m', m' < m ∧ W (i + 1) m' z' H') ∧ ∀ u H', J.yld i H u H' → tG K g u z H' fun z2 H2 => tS K x { D with nx := N, ct := N, bk := D.nx } z2 H2) := by
  refine ⟨fun i k z1 H1 => ∃ r1 s1 h1, Fwd r H r1 H1 ∧ Rel K r1 w h1 H1 ∧ SR K r1 w H1 s1 z1 ∧ forCell g x n k i s1 h1 = some (f, s', h'),
    ⟨t, r, s, h, Fwd.refl r H, R, S, e⟩, ?_⟩
  rintro i k z1 H1 ⟨r1, s1, h1, F1, R1, S1, e1⟩
  cases k with
  | zero => simp [forCell] at e1
  | succ k =>
    simp only [forCell] at e1
    split at e1
    · rename_i ys e2
      cases e3 : ys[i]? with
      | none =>
        simp only [e3, Option.some.injEq, Prod.mk.injEq] at e1
        obtain ⟨rfl, rfl, rfl⟩ := e1
        exact .inl ⟨Wk.stop i r1 w H1 h1 ys F1.stp R1 e2 e3, C r1 z1 H1 F1 R1 S1⟩
      | some v =>
        simp only [e3] at e1
        refine .inr ⟨(Wk.at_ i r1 w H1 h1 ys v F1.stp R1 e2 e3).1, fun z2 H2 => ∃ r2 s2 h2, Fwd r H r2 H2 ∧ Rel K r2 w h2 H2 ∧ SR K r2 w H2 s2 z2 ∧ forCell g x n k (i + 1) s2 h2 = some (f, s', h'), fun z2 H2 q => ⟨k, Nat.lt_succ_self k, q⟩, fun u H2 hy => ?_⟩
        obtain ⟨eH, Vv⟩ := (Wk.at_ i r1 w H1 h1 ys v F1.stp R1 e2 e3).2 u H2 hy
        subst eH
        cases e4 : g v s1 h1 with
        | none => simp [e4] at e1
        | some p2 =>
          obtain ⟨s3, h3⟩ := p2
          simp only [e4] at e1
          refine ⟨r1, w, s1, h1, v, s3, h3, R1, S1, Vv, e4, fun r3 z3 H3 F3 R3 S3 => ?_⟩
          have F13 := F1.tr R1 F3
          split at e1
          · rename_i s4 h4 e4
            exact ⟨r3, w, s3, h3, .nx, s4, h4, R3, S3, e4, fun r4 z4 H4 F4 R4 S4 => ⟨r4, s4, h4, F13.tr R3 F4, R4, S4, e1⟩⟩
          · rename_i s4 h4 e4
            exact ⟨r3, w, s3, h3, .ct, s4, h4, R3, S3, e4, fun r4 z4 H4 F4 R4 S4 => ⟨r4, s4, h4, F13.tr R3 F4, R4, S4, e1⟩⟩
          · rename_i s4 h4 e4
            simp only [Option.some.injEq, Prod.mk.injEq] at e1
            obtain ⟨rfl, rfl, rfl⟩ := e1
            exact ⟨r3, w, s3, h3, .bk, s4, h4, R3, S3, e4, ContS.fwd C F13 R3⟩
          · rename_i v4 s4 h4 e4
            simp only [Option.some.injEq, Prod.mk.injEq] at e1
            obtain ⟨rfl, rfl, rfl⟩ := e1
            exact ⟨r3, w, s3, h3, .rt v4, s4, h4, R3, S3, e4, Cont.fwd C F13 R3⟩
          · cases e1
    · cases e1
theorem ms_for (hi : MII X tg iter it) (hg : MG X tg g) (hb : MSs X sts x) (hs : ∀ x, foldedSetIterable iter X.env x = pure x := by intro _; rfl) (hp : PassesOwn (model X.prog X.w) X.A X.env X.xe := by exact PassesOwn.never) (hc : X.calm = true := by rfl) : MS X (.For tg iter sts [] pos) (sFor it g x) := PS.wk (ps_for hp hc hi hg hb hs) fun D z H ⟨r, w, s, h, f, s', h', R, S, e, C⟩ => by
  unfold sFor at e
  split at e
  · cases e
  · rename_i xs h1 e1
    exact ⟨r, w, s, h, _, h1, R, S, e1, fun r1 J H1 F1 R1 W => for_vals (tb := tS X.K x) W R1 (S.fwd F1) e (EndS.fwd C F1 R1)⟩
  · rename_i n h1 e1
    obtain ⟨t, e⟩ := fuel_at e
    exact ⟨r, w, s, h, _, h1, R, S, e1, fun r1 J H1 F1 R1 W => for_cell W R1 (S.fwd F1) e (EndS.fwd C F1 R1)⟩
end
end Ew
end

section
set_option Elab.async false
set_option linter.all false
set_option maxRecDepth 100000
set_option maxHeartbeats 4000000
/-! EwH: comprehensions, defs and their calls. -/
namespace Ew
open PySem PySem.Spec PyProof.Rows L2
variable [Tabs]
/-! ### slots that are wiped -/
theorem wipe_get (z : L2.St) : ∀ (vs : List Nat) (j : Nat), (wipe z vs)[j]? = if j ∈ vs then (if j < z.length then some none else none) else z[j]?
  | [], j => by simp [wipe]
  | v :: vs, j => by
    unfold wipe
    by_cases e : j = v
    · subst e
      simp only [List.mem_cons, true_or, if_true]
      by_cases hl : j < z.length
      · rw [List.getElem?_set_self (by rw [wipe_length]; exact hl), if_pos hl]
      · rw [List.getElem?_eq_none_iff.mpr (by rw [List.length_set, wipe_length]; omega), if_neg hl]
    · rw [List.getElem?_set_ne (Ne.symm e), wipe_get z vs j]
      simp only [List.mem_cons, e, false_or]
theorem wipeM_get (z : SM) : ∀ (vs : List Nat) (j : Nat), (wipeM z vs)[j]? = if j ∈ vs then (if j < z.length then some none else none) else z[j]?
  | [], j => by simp [wipeM]
  | v :: vs, j => by
    have hlen : ∀ vs : List Nat, (wipeM z vs).length = z.length := by
      intro vs
      induction vs with
      | nil => rfl
      | cons v vs ih => unfold wipeM; rw [List.length_set, ih]
    unfold wipeM
    by_cases e : j = v
    · subst e
      simp only [List.mem_cons, true_or, if_true]
      by_cases hl : j < z.length
      · rw [List.getElem?_set_self (by rw [hlen]; exact hl), if_pos hl]
      · rw [List.getElem?_eq_none_iff.mpr (by rw [List.length_set, hlen]; omega), if_neg hl]
    · rw [List.getElem?_set_ne (Ne.symm e), wipeM_get z vs j]
      simp only [List.mem_cons, e, false_or]
theorem wipeM_length (z : SM) : ∀ vs : List Nat, (wipeM z vs).length = z.length
  | [] => rfl
  | v :: vs => by unfold wipeM; rw [List.length_set, wipeM_length z vs]
theorem wipe_set {z : L2.St} {vs : List Nat} {i : Nat} {o : Option V} (hi : i ∈ vs) : wipe (z.set i o) vs = wipe z vs := by
  apply List.ext_getElem?
  intro j
  rw [wipe_get, wipe_get, List.length_set]
  by_cases hj : j ∈ vs
  · rw [if_pos hj, if_pos hj]
  · rw [if_neg hj, if_neg hj]
    have ne : i ≠ j := fun e => hj (by rw [← e]; exact hi)
    exact List.getElem?_set_ne ne
section
variable {K : PySem.W.Frag} {r r' w : List Addr} {H H' : Hp} {h : MH}
theorem SR.wipe {s : SM} {z : L2.St} (S : SR K r w H s z) (vs : List Nat) : SR K r w H (wipeM s vs) (L2.wipe z vs) := by
  refine ⟨by rw [wipeM_length, wipe_length]; exact S.1, fun i v e => ?_⟩
  rw [wipeM_get] at e
  by_cases hi : i ∈ vs
  · rw [if_pos hi] at e
    split at e <;> cases e
  · rw [if_neg hi] at e
    rw [wipe_get, if_neg hi]
    exact S.2 i v e
theorem Stp.held {p : Addr} {o : HO} (hw : p ∈ w) : Stp r w H r w (upd H p o) := ⟨fun _ _ h => h, fun a u n e => ⟨n, .inl (by rw [upd_ne (fun z => n.2 (by rw [z]; exact hw))]; exact e)⟩⟩
theorem Rel.held {p : Addr} {o : HO} (R : Rel K r w h H) (hw : p ∈ w) (nt : ∀ us, o ≠ HO.tup us := by intro _ z; cases z) : Rel K r w h (upd H p o) := by
  have hp : p ∉ r := (R.wh p hw).1
  refine ⟨R.len, R.nd, fun n a c hn hc => (R.at_ n a c hn hc).map (Stp.held hw) (upd_ne fun z => hp (by rw [← z]; exact List.mem_of_getElem? hn)), fun d hd => ?_⟩
  obtain ⟨n, u, e, nu⟩ := R.wh d hd
  refine ⟨n, ?_⟩
  by_cases q : d = p
  · subst q; exact ⟨o, upd_same, nt⟩
  · exact ⟨u, by rw [upd_ne q]; exact e, nu⟩
end
/-- a comprehension's target -/
structure TgOk (K : PySem.W.Frag) (vs : List Nat) (g : TG) (gm : XG) : Prop where
  at_ : ∀ (r w : List Addr) (s : SM) (h : MH) (v : MV) (s1 : SM) (h1 : MH) (u : V) (z : L2.St) (H : Hp) (Q : L2.St → Hp → Prop), Rel K r w h H → SR K r w H s z → VR K r w H v u → gm v s h = some (s1, h1) →
    h1 = h ∧ ((∀ z1, SR K r w H s1 z1 → L2.wipe z1 vs = L2.wipe z vs → Q z1 H) → g u z H Q)
theorem tgok_nm {K : PySem.W.Frag} {vs : List Nat} {i : Nat} (hi : i ∈ vs) : TgOk K vs (gName i) (gNm i) := ⟨fun r w s h v s1 h1 u z H Q R S V e => by
  simp only [gNm, Option.some.injEq, Prod.mk.injEq] at e
  obtain ⟨rfl, rfl⟩ := e
  exact ⟨rfl, fun k => k _ (S.set i V) (wipe_set hi)⟩⟩
theorem tgok_2 {K : PySem.W.Frag} {vs : List Nat} {i j : Nat} (hi : i ∈ vs) (hj : j ∈ vs) : TgOk K vs (gTup K 2 (gCons (gName i) (gCons (gName j) gNil))) (gTp 2 (gsCons (gNm i) (gsCons (gNm j) gsNil))) := ⟨fun r w s h v s1 h1 u z H Q R S V e => by
  unfold gTp at e
  split at e
  · rename_i xs
    split at e
    · rename_i hl
      match xs, hl with
      | [x, y], _ =>
        simp only [gsCons, gNm, gsNil, Option.some.injEq, Prod.mk.injEq] at e
        obtain ⟨rfl, rfl⟩ := e
        refine ⟨rfl, fun k => ?_⟩
        simp only [VR] at V
        obtain ⟨a, us, rfl, t, q⟩ := V
        obtain ⟨u1, u2, rfl, q1, q2⟩ := vrs2 q
        exact ⟨a, _, rfl, t.sq, rfl, u1, [u2], rfl, u2, [], rfl, rfl, k _ ((S.set i q1).set j q2) (by rw [wipe_set hj, wipe_set hi])⟩
    · cases e
  · rename_i xs
    split at e
    · rename_i hl
      match xs, hl with
      | [x, y], _ =>
        simp only [gsCons, gNm, gsNil, Option.some.injEq, Prod.mk.injEq] at e
        obtain ⟨rfl, rfl⟩ := e
        refine ⟨rfl, fun k => ?_⟩
        simp only [VR] at V
        obtain ⟨a, us, rfl, t, q⟩ := V
        obtain ⟨u1, u2, rfl, q1, q2⟩ := vrs2 q
        exact ⟨a, _, rfl, t.sq, rfl, u1, [u2], rfl, u2, [], rfl, rfl, k _ ((S.set i q1).set j q2) (by rw [wipe_set hj, wipe_set hi])⟩
    · cases e
  · cases e⟩
theorem lc_vals {K : PySem.W.Frag} {J : It} {g : TG} {gm : XG} {c : XT} {e : XE} {own : List Nat} {xs : List MV} {r w : List Addr} {s : SM} {h h' : MH} {H : Hp} {z : L2.St} {D : Addr} {ys : List MV} {Q : VK} (Wk : Walks K J xs r w H) (tg : TgOk K own g gm)
    (R : Rel K r w h H) (S : SR K r w H s z) (hD : H D = none) (ev : lcGo gm c e [] xs (wipeM s own) h = some (ys, h')) (C : ContF K r w h' H (.lst ys) Q) :
    ∃ W : Nat → Nat → Hp → Prop, (∃ m, W 0 m (upd H D (.lst []))) ∧ ∀ i m H, W i m H → (J.stop i H ∧ Q (.ref D) H) ∨ (J.go i H ∧ ∃ Nx : Hp → Prop, (∀ H', Nx H' → ∃ m', m' < m ∧ W (i + 1) m' H') ∧
      ∀ x H', J.yld i H x H' → g x (L2.wipe z own) H' fun z2 H2 => L2.wipe z2 own = L2.wipe z own ∧ tT K c z2 H2 fun b H3 => if b = true then tM K e z2 H3 fun y H4 => ∃ acc, H4 D = some (.lst acc) ∧ acc.length < sizeLine ∧ Nx (upd H4 D (.lst (acc ++ [y]))) else Nx H3) := by
  have nD : D ∉ w := R.ninw hD
  -- the state at turn i: what is made so far
  let I : Nat → List MV → Hp → Prop := fun i acc H1 => ∃ r1 h1 us, Fwd r H r1 H1 ∧ Rel K r1 (D :: w) h1 H1 ∧ SR K r1 (D :: w) H1 (wipeM s own) (L2.wipe z own) ∧ H1 D = some (.lst us) ∧ VRs K r1 (D :: w) H1 acc us ∧ lcGo gm c e acc (xs.drop i) (wipeM s own) h1 = some (ys, h')
  refine ⟨fun i n H1 => n = xs.length - i ∧ i ≤ xs.length ∧ ∃ acc, I i acc H1, ⟨_, rfl, Nat.zero_le _, [], r, h, [], Fwd.new r hD, R.hold hD, (S.map (Stp.hold R hD)).wipe own, upd_same, by simp [VRs], by simpa using ev⟩, ?_⟩
  rintro i n H1 ⟨rfl, hi, acc, r1, h1, us, F1, R1, S1, eD, V1, e1⟩
  have st : Stp r w H r1 (D :: w) H1 := ⟨fun n a hn => F1.at_ hn, fun a o n ea => ⟨⟨F1.nin n.1 ea, fun hm => by
    rcases List.mem_cons.mp hm with q | q
    · rw [q, hD] at ea; cases ea
    · exact n.2 q⟩, .inl (F1.keep a o n.1 ea)⟩⟩
  by_cases hl : i < xs.length
  · obtain ⟨hgo, hy⟩ := Wk.at_ i r1 _ H1 h1 F1 st R1 hl
    refine .inr ⟨hgo, fun H2 => ∃ acc, I (i + 1) acc H2, fun H2 q => ⟨xs.length - (i + 1), by omega, rfl, hl, q⟩, fun x H2 hx => ?_⟩
    obtain ⟨F2, R2, v, ex, Vv⟩ := hy x H2 hx
    have F12 : Fwd r H r1 H2 := F1.tr R1 F2
    have ed : xs.drop i = v :: xs.drop (i + 1) := by
      rw [List.drop_eq_getElem_cons hl]
      rw [List.getElem?_eq_getElem hl] at ex
      cases ex; rfl
    rw [ed] at e1
    simp only [lcGo] at e1
    cases e2 : gm v (wipeM s own) h1 with
    | none => simp [e2] at e1
    | some p2 =>
      obtain ⟨s3, h3⟩ := p2
      simp only [e2] at e1
      have nDr : D ∉ r1 := (R1.wh D List.mem_cons_self).1
      have eD2 : H2 D = some (.lst us) := F2.keep D _ nDr eD
      have V2 := VRs.fwd F2 _ _ V1
      have S2 := S1.fwd F2
      obtain ⟨rfl, kg⟩ := tg.at_ r1 (D :: w) _ h1 v s3 h3 x _ H2 _ R2 S2 Vv e2
      refine kg fun z3 S3 wz => ⟨by rw [wz, show L2.wipe (L2.wipe z own) own = L2.wipe z own from by
        apply List.ext_getElem?
        intro j
        rw [wipe_get, wipe_get, wipe_length]
        split <;> rfl], ?_⟩
      cases e3 : c s3 h3 with
      | none => simp [e3] at e1
      | some p3 =>
        obtain ⟨b, h4⟩ := p3
        refine ⟨r1, _, s3, h3, b, h4, R2, S3, e3, fun r4 H4 F4 R4 => ?_⟩
        have F14 := F12.tr R2 F4
        have eD4 : H4 D = some (.lst us) := F4.keep D _ nDr eD2
        have V4 := VRs.fwd F4 _ _ V2
        cases b with
        | false =>
          simp only [e3] at e1
          exact iteF ⟨acc, r4, h4, us, F14, R4, S2.fwd F4, eD4, V4, e1⟩
        | true =>
          simp only [e3] at e1
          cases e5 : e s3 h4 with
          | none => simp [e5] at e1
          | some p5 =>
            obtain ⟨v5, h5⟩ := p5
            simp only [e5] at e1
            split at e1
            · rename_i hz
              refine iteT ⟨r4, _, s3, h4, v5, h5, R4, S3.fwd F4, e5, fun r5 u5 H5 F5 R5 V5 => ?_⟩
              have nDr4 : D ∉ r4 := (R4.wh D List.mem_cons_self).1
              have eD5 : H5 D = some (.lst us) := F5.keep D _ nDr4 eD4
              have V5' := VRs.fwd F5 _ _ V4
              have hm : D ∈ D :: w := List.mem_cons_self
              have F15 := F14.tr R4 F5
              refine ⟨us, eD5, by rw [← VRs.length V5', ← szl]; exact hz, acc ++ [v5], r5, h5, us ++ [u5], ⟨F15.ext, fun a o n ea => ?_, fun a o u ea => ?_⟩, R5.held hm, ((S2.fwd F4).fwd F5).map (Stp.held hm), upd_same, VRs.map (Stp.held hm) _ _ (VRs.append V5' (VRs.one V5)), e1⟩
              · rw [upd_ne (ne_of_none ea hD)]; exact F15.keep a o n ea
              · rw [upd_ne (ne_of_none ea hD)]; exact F15.frz a o u ea
            · cases e1
  · have e0 : xs.drop i = [] := List.drop_eq_nil_of_le (by omega)
    rw [e0] at e1
    simp only [lcGo, Option.some.injEq, Prod.mk.injEq] at e1
    obtain ⟨rfl, rfl⟩ := e1
    refine .inl ⟨Wk.stop i r1 _ H1 h1 F1 st R1 (by omega), C r1 D H1 F1 hD R1 ?_⟩
    simp only [VF]
    exact ⟨us, eD, V1⟩
theorem lc_cell {K : PySem.W.Frag} {J : It} {g : TG} {gm : XG} {c : XT} {e : XE} {own : List Nat} {nc t : Nat} {r w : List Addr} {s : SM} {h h' : MH} {H : Hp} {z : L2.St} {D : Addr} {ys : List MV} {Q : VK} (Wk : WalksC K J nc r w H) (tg : TgOk K own g gm)
    (R : Rel K r w h H) (S : SR K r w H s z) (hD : H D = none) (ev : lcCell gm c e nc t 0 [] (wipeM s own) h = some (ys, h')) (C : ContF K r w h' H (.lst ys) Q) :
    ∃ W : Nat → Nat → Hp → Prop, (∃ m, W 0 m (upd H D (.lst []))) ∧ ∀ i m H, W i m H → (J.stop i H ∧ Q (.ref D) H) ∨ (J.go i H ∧ ∃ Nx : Hp → Prop, (∀ H', Nx H' → ∃ m', m' < m ∧ W (i + 1) m' H') ∧
      ∀ x H', J.yld i H x H' → g x (L2.wipe z own) H' fun z2 H2 => L2.wipe z2 own = L2.wipe z own ∧ tT K c z2 H2 fun b H3 => if b = true then tM K e z2 H3 fun y H4 => ∃ acc, H4 D = some (.lst acc) ∧ acc.length < sizeLine ∧ Nx (upd H4 D (.lst (acc ++ [y]))) else Nx H3) := by
  have nD : D ∉ w := R.ninw hD
  let I : Nat → Nat → List MV → Hp → Prop := fun i m acc H1 => ∃ r1 h1 us, Fwd r H r1 H1 ∧ Rel K r1 (D :: w) h1 H1 ∧ SR K r1 (D :: w) H1 (wipeM s own) (L2.wipe z own) ∧ H1 D = some (.lst us) ∧ VRs K r1 (D :: w) H1 acc us ∧ lcCell gm c e nc m i acc (wipeM s own) h1 = some (ys, h')
  refine ⟨fun i n H1 => ∃ acc, I i n acc H1, ⟨t, [], r, h, [], Fwd.new r hD, R.hold hD, (S.map (Stp.hold R hD)).wipe own, upd_same, by simp [VRs], ev⟩, ?_⟩
  rintro i n H1 ⟨acc, r1, h1, us, F1, R1, S1, eD, V1, e1⟩
  have st : Stp r w H r1 (D :: w) H1 := ⟨fun n a hn => F1.at_ hn, fun a o n ea => ⟨⟨F1.nin n.1 ea, fun hm => by
    rcases List.mem_cons.mp hm with q | q
    · rw [q, hD] at ea; cases ea
    · exact n.2 q⟩, .inl (F1.keep a o n.1 ea)⟩⟩
  cases n with
  | zero => simp [lcCell] at e1
  | succ n =>
    simp only [lcCell] at e1
    split at e1
    · rename_i xs e0
      cases ex : xs[i]? with
      | none =>
        simp only [ex, Option.some.injEq, Prod.mk.injEq] at e1
        obtain ⟨rfl, rfl⟩ := e1
        refine .inl ⟨Wk.stop i r1 _ H1 h1 xs st R1 e0 ex, C r1 D H1 F1 hD R1 ?_⟩
        simp only [VF]
        exact ⟨us, eD, V1⟩
      | some v =>
        simp only [ex] at e1
        obtain ⟨hgo, hy⟩ := Wk.at_ i r1 _ H1 h1 xs v st R1 e0 ex
        refine .inr ⟨hgo, fun H2 => ∃ acc, I (i + 1) n acc H2, fun H2 q => ⟨n, Nat.lt_succ_self n, q⟩, fun x H2 hx => ?_⟩
        obtain ⟨eH, Vv⟩ := hy x H2 hx
        subst eH
        cases e2 : gm v (wipeM s own) h1 with
        | none => simp [e2] at e1
        | some p2 =>
          obtain ⟨s3, h3⟩ := p2
          simp only [e2] at e1
          have nDr : D ∉ r1 := (R1.wh D List.mem_cons_self).1
          obtain ⟨rfl, kg⟩ := tg.at_ r1 (D :: w) _ h1 v s3 h3 x _ H2 _ R1 S1 Vv e2
          refine kg fun z3 S3 wz => ⟨by rw [wz, show L2.wipe (L2.wipe z own) own = L2.wipe z own from by
            apply List.ext_getElem?
            intro j
            rw [wipe_get, wipe_get, wipe_length]
            split <;> rfl], ?_⟩
          cases e3 : c s3 h3 with
          | none => simp [e3] at e1
          | some p3 =>
            obtain ⟨b, h4⟩ := p3
            refine ⟨r1, _, s3, h3, b, h4, R1, S3, e3, fun r4 H4 F4 R4 => ?_⟩
            have F14 := F1.tr R1 F4
            have eD4 : H4 D = some (.lst us) := F4.keep D _ nDr eD
            have V4 := VRs.fwd F4 _ _ V1
            cases b with
            | false =>
              simp only [e3] at e1
              exact iteF ⟨acc, r4, h4, us, F14, R4, S1.fwd F4, eD4, V4, e1⟩
            | true =>
              simp only [e3] at e1
              cases e5 : e s3 h4 with
              | none => simp [e5] at e1
              | some p5 =>
                obtain ⟨v5, h5⟩ := p5
                simp only [e5] at e1
                split at e1
                · rename_i hz
                  refine iteT ⟨r4, _, s3, h4, v5, h5, R4, S3.fwd F4, e5, fun r5 u5 H5 F5 R5 V5 => ?_⟩
                  have nDr4 : D ∉ r4 := (R4.wh D List.mem_cons_self).1
                  have eD5 : H5 D = some (.lst us) := F5.keep D _ nDr4 eD4
                  have V5' := VRs.fwd F5 _ _ V4
                  have hm : D ∈ D :: w := List.mem_cons_self
                  have F15 := F14.tr R4 F5
                  refine ⟨us, eD5, by rw [← VRs.length V5', ← szl]; exact hz, acc ++ [v5], r5, h5, us ++ [u5], ⟨F15.ext, fun a o n ea => ?_, fun a o u ea => ?_⟩, R5.held hm, ((S1.fwd F4).fwd F5).map (Stp.held hm), upd_same, VRs.map (Stp.held hm) _ _ (VRs.append V5' (VRs.one V5)), e1⟩
                  · rw [upd_ne (ne_of_none ea hD)]; exact F15.keep a o n ea
                  · rw [upd_ne (ne_of_none ea hD)]; exact F15.frz a o u ea
                · cases e1
    · cases e1
/-- the reading of a comprehension -/
theorem lc_wk {K : PySem.W.Frag} {g : TG} {gm : XG} {c : XT} {e : XE} {own : List Nat} {it : XI} (tg : TgOk K own g gm) : ∀ z H Q, tF K (xLc it gm c e own) z H Q → tLc (tI K it) g (tT K c) (tM K e) own z H Q := fun z H Q ⟨r, w, s, h, v, h', R, S, ev, C⟩ => by
  unfold xLc at ev
  cases e1 : it s h with
  | none => simp [e1] at ev
  | some p1 =>
    obtain ⟨k, h1⟩ := p1
    simp only [e1] at ev
    refine ⟨r, w, s, h, k, h1, R, S, e1, fun r1 J H1 F1 R1 Wk D hD => ?_⟩
    cases k with
    | vals xs =>
      simp only at ev
      cases e2 : lcGo gm c e [] xs (wipeM s own) h1 with
      | none => simp [e2] at ev
      | some p2 =>
        obtain ⟨ys, h2⟩ := p2
        simp only [e2, Option.some.injEq, Prod.mk.injEq] at ev
        obtain ⟨rfl, rfl⟩ := ev
        exact lc_vals Wk tg R1 (S.fwd F1) hD e2 (C.fwd F1 R1)
    | cell n =>
      simp only at ev
      cases e2 : fuel fun t => lcCell gm c e n t 0 [] (wipeM s own) h1 with
      | none => simp [e2] at ev
      | some p2 =>
        obtain ⟨ys, h2⟩ := p2
        simp only [e2, Option.some.injEq, Prod.mk.injEq] at ev
        obtain ⟨rfl, rfl⟩ := ev
        obtain ⟨t, e2⟩ := fuel_at e2
        exact lc_cell Wk tg R1 (S.fwd F1) hD e2 (C.fwd F1 R1)
abbrev MTs (X : Cx) (ifs : List Expr) (c : XT) : Prop := PTs X ifs (tT X.K c)
theorem mts_nil {X : Cx} : MTs X [] cYes := ⟨fun pins s z H Q I ⟨r, w, s', h, v, h', R, S, e, C⟩ => pts_nil.run pins s z H Q I (by
  simp only [cYes, Option.some.injEq, Prod.mk.injEq] at e
  obtain ⟨rfl, rfl⟩ := e
  exact C r H (Fwd.refl r H) R)⟩
theorem mts_one {X : Cx} {c : Expr} {ta : XT} (h : MT X c ta) : MTs X [c] ta := pts_one h
theorem tF_val {K : PySem.W.Frag} {m : XE} : ∀ z H Q, tM K m z H Q → tF K m z H Q := fun z H Q ⟨r, w, s, h, v, h', R, S, e, C⟩ => ⟨r, w, s, h, v, h', R, S, e, fun r' p H' F n R' q => by
  refine C r' (.ref p) H' F R'.drop (VF.vr R'.drop ⟨(R'.wh p List.mem_cons_self).1, R.ninw n⟩ (VF.map Stp.drop rfl q))⟩
section
variable {X : Cx} {elt tg iter : Expr} {ifs : List Expr} {scope : Scope} {own : List (Str × Nat)} {pos spos : Pos} {it : XI} {g : TG} {gm : XG} {c : XT} {me : XE}
/-- [elt for tg in iter if ..] -/
theorem mf_lc (hN : X.N.Nodup) (hi : MII X tg iter it) (ok : blkC X.N X.env.scope scope own = true) (tk : TgOk X.K (own.map (·.2)) g gm)
    (hg : ∀ (s : Shared) (H : Hp) (C : Addr) (cl : List (Str × Addr)) (fp : List Addr), PG (X.blk s H scope (compEnvC scope cl C X.env) fp) tg g)
    (ht : ∀ (s : Shared) (H : Hp) (C : Addr) (cl : List (Str × Addr)) (fp : List Addr), MTs (X.blk s H scope (compEnvC scope cl C X.env) fp) ifs c)
    (he : ∀ (s : Shared) (H : Hp) (C : Addr) (cl : List (Str × Addr)) (fp : List Addr), ME (X.blk s H scope (compEnvC scope cl C X.env) fp) elt me) (hs : ∀ x, foldedSetIterable iter X.env x = pure x := by intro _; rfl) (hc : X.calm = true := by rfl) :
    MF X (.ListComp elt [⟨tg, iter, ifs, 0⟩] scope pos) (xLc it gm c me (own.map (·.2))) := PE.wk (pe_lc hc hN hi (blkOk_by ok) hg ht he hs) (lc_wk tk)
/-- y = [elt for ..], as a value or as a cell (m) -/
theorem ms_setLc {n : Nat} {y : Str} {py : Pos} {m : XE} (hm : ∀ z H Q, tM X.K m z H Q → tF X.K (xLc it gm c me (own.map (·.2))) z H Q) (hN : X.N.Nodup) (hi : MII X tg iter it) (ok : blkC X.N X.env.scope scope own = true) (tk : TgOk X.K (own.map (·.2)) g gm)
    (hg : ∀ (s : Shared) (H : Hp) (C : Addr) (cl : List (Str × Addr)) (fp : List Addr), PG (X.blk s H scope (compEnvC scope cl C X.env) fp) tg g)
    (ht : ∀ (s : Shared) (H : Hp) (C : Addr) (cl : List (Str × Addr)) (fp : List Addr), MTs (X.blk s H scope (compEnvC scope cl C X.env) fp) ifs c)
    (he : ∀ (s : Shared) (H : Hp) (C : Addr) (cl : List (Str × Addr)) (fp : List Addr), ME (X.blk s H scope (compEnvC scope cl C X.env) fp) elt me)
    (hsw : swapsWith (.ListComp elt [⟨tg, iter, ifs, 0⟩] scope pos) (some (.Name y py)) spos.line X.env = pure true) (hy : X.N[n]? = some y := by rfl) (hyl : X.env.scope.names.lookup y = some .local := by rfl) (hs : ∀ x, foldedSetIterable iter X.env x = pure x := by intro _; rfl) (hc : X.calm = true := by rfl) :
    MS X (.Assign [.Name y py] (.ListComp elt [⟨tg, iter, ifs, 0⟩] scope pos) spos) (sSet n m) := PS.wk (ps_setLc hc hN hy hyl hsw hi (blkOk_by ok) hg ht he hs) fun D z H ⟨r, w, s, h, f, s', h', R, S, e, C⟩ => by
  refine lc_wk tk z H _ (hm z H _ ?_)
  unfold sSet sAsg at e
  cases e1 : m s h with
  | none => simp [e1] at e
  | some p1 =>
    obtain ⟨v, h1⟩ := p1
    simp only [e1, gNm, Option.some.injEq, Prod.mk.injEq] at e
    obtain ⟨rfl, rfl, rfl⟩ := e
    exact ⟨r, w, s, h, v, h1, R, S, e1, fun r1 u H1 F1 R1 V1 => C r1 _ H1 F1 R1 ((S.fwd F1).set n V1)⟩
end
/-! ### defs -/
section
variable (K : PySem.W.Frag)
/-- what a def's function promises; where what it hands back is a fresh list or dict -/
def spM (n : Nat) (g : Fn) : Sp := fun us H Q _ => us.length = n ∧ ∃ r w h vs v h', Rel K r w h H ∧ VRs K r w H vs us ∧ g vs h = some (v, h') ∧ Cont K r w h' H v Q
def spF (n : Nat) (g : Fn) : Sp := fun us H Q _ => us.length = n ∧ ∃ r w h vs v h', Rel K r w h H ∧ VRs K r w H vs us ∧ g vs h = some (v, h') ∧ ContF K r w h' H v Q
end
/-- a def of the text that keeps a promise -/
def Cal (P : Program) (w : World) (K : PySem.W.Frag) (mg : Str → Option Value) (base : Heap) (x : Str) (n : Nat) (sp : Sp) (k : Nat) : Prop :=
  ∃ (f : Addr) (fd : FuncData) (ps : List Str), FnOk P w K mg base CX0 k f fd ps sp ∧ ps.length = n ∧ mg x = some (.ref f) ∧ PySem.W.keepIn K (.ref f) = true ∧ Binds K fd ps []
section
variable {P : Program} {w : World} {K : PySem.W.Frag} {mg : Str → Option Value} {base : Heap} {x : Str} {n k : Nat}
theorem Cal.imp {sp sp' : Sp} (h : Cal P w K mg base x n sp k) (i : ∀ vs H Q E, sp' vs H Q E → sp vs H Q E) : Cal P w K mg base x n sp' k := by
  obtain ⟨f, fd, ps, F, a, b, c, d⟩ := h
  exact ⟨f, fd, ps, F.imp i, a, b, c, d⟩
/-- the def st, its body's function b -/
theorem def_fn {N ps : List Str} {st : Stmt} {f : Addr} {fd : FuncData} {b : XS} (F : L2.Fun K x x st f fd) (S : FnScope N ps (defScope st))
    (body : ∀ (cdv : Value) (A : Around) (outer : List Env) (s : Shared) (H : Hp) (E : XK), Room k (A.deeper (envOfC x (defScope st) s.heap.objs.size f cdv)) →
      MSs (cxOf CX0 P w K mg base N x (defScope st) f cdv A outer s H E).nox (defBody st) b) : FnOk P w K mg base CX0 (k + 1) f fd ps (spM K ps.length (runDef N.length b)) := by
  refine F.ok S (fun vs H Q E h => h.1) (fun cdv A outer s H us Q E hr h => ?_)
  obtain ⟨hl, r, w', hh, vs, v, h', R, V, e, C⟩ := h
  refine ⟨_, body cdv A outer s H E hr, ?_⟩
  have S0 : SR K r w' H (sBegin N.length vs) (L2.start N us) := by
    have hvl := VRs.length V
    refine ⟨by simp [sBegin, L2.start, hvl], fun i y ey => ?_⟩
    unfold sBegin at ey
    unfold L2.start
    by_cases hi : i < vs.length
    · rw [List.getElem?_append_left (by simpa using hi), List.getElem?_map] at ey
      cases ev : vs[i]? with
      | none => rw [ev] at ey; simp at ey
      | some y' =>
        rw [ev] at ey
        simp only [Option.map_some, Option.some.injEq] at ey
        subst ey
        obtain ⟨u, e1, e2⟩ := VRs.get V ev
        refine ⟨u, ?_, e2⟩
        rw [List.getElem?_append_left (by simpa [← hvl] using hi), List.getElem?_map, e1]
        rfl
    · rw [List.getElem?_append_right (by simpa using hi), List.getElem?_replicate] at ey
      split at ey <;> cases ey
  unfold runDef at e
  split at e
  · rename_i v1 s1 h1 e1
    simp only [Option.some.injEq, Prod.mk.injEq] at e
    obtain ⟨rfl, rfl⟩ := e
    exact ⟨r, w', _, hh, .rt v1, s1, h1, R, S0, e1, C⟩
  · rename_i s1 h1 e1
    simp only [Option.some.injEq, Prod.mk.injEq] at e
    obtain ⟨rfl, rfl⟩ := e
    exact ⟨r, w', _, hh, .nx, s1, h1, R, S0, e1, fun r1 z1 H1 F1 R1 S1 => C r1 .non H1 F1 R1 (by simp only [VR])⟩
  · cases e
theorem def_ok {N ps : List Str} {st : Stmt} {f : Addr} {fd : FuncData} {b : XS} (F : L2.Fun K x x st f fd) (hg : mg x = some (.ref f)) (S : FnScope N ps (defScope st))
    (hb : ∀ (kV doc pm : Value) (an : Option Addr) (cdv ct : Value) (us : List Value), us.length = ps.length → bindArgs (PySem.W.fnOf x x (defArgs st) (defBody st) (defScope st) .none kV doc pm an cdv ct) ⟨us, []⟩ = pure (ps.zip us))
    (body : ∀ (cdv : Value) (A : Around) (outer : List Env) (s : Shared) (H : Hp) (E : XK), Room k (A.deeper (envOfC x (defScope st) s.heap.objs.size f cdv)) →
      MSs (cxOf CX0 P w K mg base N x (defScope st) f cdv A outer s H E).nox (defBody st) b) : Cal P w K mg base x ps.length (spM K ps.length (runDef N.length b)) (k + 1) :=
  ⟨f, fd, ps, def_fn F S body, rfl, hg, F.kp, F.binds hb⟩
end
section
variable {X : Cx} {e : Expr} {es : List Expr} {mas : XA} {x : Str} {p pos : Pos} {n k j : Nat} {g : Fn}
theorem me_call (F : Cal X.prog X.w X.K X.mg X.base x n (spM X.K n g) j) (hr : Room k X.A) (ha : MA X (e :: es) mas) (hj : j ≤ k := by decide) (hn : (e :: es).length = n := by rfl) (hg : Gl X x := by rfl) (hdb : (x == ("__debug__" : Str)) = false := by decide +kernel)
    (he : starEach (e :: es) X.env = (false, eval e X.env) :: starEach es X.env := by rfl) (hpl : (backTo pos (starEach es X.env)).any (·.1) = false := by rfl) : ME X (.Call (.Name x p) (e :: es) [] pos) (xCall g mas) := by
  obtain ⟨f, fd, ps, F, hps, hm, hk, hb⟩ := F
  refine PE.wk (pe_call F (hr.mono hj) hg hm hk hb .nil pass0 ha.pa hdb he hpl) fun z H Q ⟨r, w, s, h, v, h', R, S, e, C⟩ => ?_
  unfold xCall at e
  cases e1 : mas s h with
  | none => simp [e1] at e
  | some p1 =>
    obtain ⟨xs, h1⟩ := p1
    simp only [e1] at e
    refine ⟨r, w, s, h, xs, h1, R, S, e1, fun r1 us H1 F1 R1 V1 => ?_⟩
    show spM X.K n g (us ++ []) H1 Q E0
    rw [List.append_nil]
    exact ⟨by rw [← VRs.length V1, ha.len _ _ _ _ e1]; exact hn, r1, w, h1, xs, v, h', R1, V1, e, C.fwd F1 R1⟩
theorem mf_call (F : Cal X.prog X.w X.K X.mg X.base x n (spF X.K n g) j) (hr : Room k X.A) (ha : MA X (e :: es) mas) (hj : j ≤ k := by decide) (hn : (e :: es).length = n := by rfl) (hg : Gl X x := by rfl) (hdb : (x == ("__debug__" : Str)) = false := by decide +kernel)
    (he : starEach (e :: es) X.env = (false, eval e X.env) :: starEach es X.env := by rfl) (hpl : (backTo pos (starEach es X.env)).any (·.1) = false := by rfl) : MF X (.Call (.Name x p) (e :: es) [] pos) (xCall g mas) := by
  obtain ⟨f, fd, ps, F, hps, hm, hk, hb⟩ := F
  refine PE.wk (pe_call F (hr.mono hj) hg hm hk hb .nil pass0 ha.pa hdb he hpl) fun z H Q ⟨r, w, s, h, v, h', R, S, e, C⟩ => ?_
  unfold xCall at e
  cases e1 : mas s h with
  | none => simp [e1] at e
  | some p1 =>
    obtain ⟨xs, h1⟩ := p1
    simp only [e1] at e
    refine ⟨r, w, s, h, xs, h1, R, S, e1, fun r1 us H1 F1 R1 V1 => ?_⟩
    show spF X.K n g (us ++ []) H1 Q E0
    rw [List.append_nil]
    exact ⟨by rw [← VRs.length V1, ha.len _ _ _ _ e1]; exact hn, r1, w, h1, xs, v, h', R1, V1, e, C.fwd F1 R1⟩
end
end Ew
end

section
set_option Elab.async false
set_option linter.all false
set_option maxRecDepth 100000
set_option maxHeartbeats 4000000
/-! EwI: what a def's function does told to its callers; the law's end. -/
namespace Ew
open PySem PySem.Spec PyProof.Rows L2
variable [Tabs]
section
variable {K : PySem.W.Frag} {r ps w w' : List Addr} {H : Hp} {h2 : MH} {x : Nat}
/-- what stands at a new cell is out of the old ones -/
theorem out_new (R : Rel K (r ++ ps) w h2 H) (hw : ∀ d ∈ w', d ∈ w ∨ (r ++ ps)[x]? = some d) {m : Nat} {a : Addr} (hm : (r ++ ps)[m]? = some a) (hn : r.length ≤ m) (hx : m ≠ x) : Out r w' a := by
  have hl := (List.getElem?_eq_some_iff.mp hm).1
  refine ⟨fun ha => ?_, fun ha => ?_⟩
  · obtain ⟨i, hi⟩ := List.getElem?_of_mem ha
    have hil := (List.getElem?_eq_some_iff.mp hi).1
    have hi2 : (r ++ ps)[i]? = some a := by rw [List.getElem?_append_left hil]; exact hi
    have := (List.getElem?_inj (List.getElem?_eq_some_iff.mp hi2).1 R.nd).mp (hi2.trans hm.symm)
    omega
  · rcases hw a ha with q | q
    · exact (R.wh a q).1 (List.mem_of_getElem? hm)
    · have := (List.getElem?_inj hl R.nd).mp (hm.trans q.symm)
      exact hx this
theorem out_old (hw : ∀ d ∈ w', d ∈ w ∨ (r ++ ps)[x]? = some d) {a : Addr} (n : Out (r ++ ps) w a) : Out r w' a :=
  ⟨fun q => n.1 (List.mem_append_left _ q), fun q => by
    rcases hw a q with z | z
    · exact n.2 z
    · exact n.1 (List.mem_of_getElem? z)⟩
mutual
theorem frz_vr (R : Rel K (r ++ ps) w h2 H) (hw : ∀ d ∈ w', d ∈ w ∨ (r ++ ps)[x]? = some d) : ∀ (y v : MV) (u : V), Frz h2 r.length x v y → VR K (r ++ ps) w H v u → VR K r w' H y u
  | .non, v, u, f, q => by simp only [Frz] at f; subst f; simpa [VR] using q
  | .bl _, v, u, f, q => by simp only [Frz] at f; subst f; simpa [VR] using q
  | .int _, v, u, f, q => by simp only [Frz] at f; subst f; simpa [VR] using q
  | .str _, v, u, f, q => by simp only [Frz] at f; subst f; simpa [VR] using q
  | .scr _, v, u, f, q => by
    simp only [Frz] at f; subst f
    simp only [VR] at q ⊢
    obtain ⟨a, e, q⟩ := q
    rcases q with ⟨n, q⟩ | q
    · exact ⟨a, e, .inl ⟨out_old hw n, q⟩⟩
    · exact ⟨a, e, .inr q⟩
  | .ref m, v, u, f, q => by
    simp only [Frz] at f
    obtain ⟨rfl, hm⟩ := f
    simp only [VR] at q ⊢
    obtain ⟨a, e, q⟩ := q
    rw [List.getElem?_append_left hm] at q
    exact ⟨a, e, q⟩
  | .tup ys, v, u, f, q => by
    simp only [Frz] at f
    obtain ⟨xs, rfl, f⟩ := f
    simp only [VR] at q ⊢
    obtain ⟨a, us, e, t, q⟩ := q
    exact ⟨a, us, e, ⟨out_old hw t.1, t.2⟩, frzs_vr R hw ys xs us f q⟩
  | .row ys, v, u, f, q => by
    simp only [Frz] at f
    obtain ⟨xs, rfl, f⟩ := f
    simp only [VR] at q ⊢
    obtain ⟨a, us, e, t, q⟩ := q
    exact ⟨a, us, e, ⟨out_old hw t.1, t.2⟩, frzs_vr R hw ys xs us f q⟩
  | .lst ys, v, u, f, q => by
    simp only [Frz] at f
    rcases f with ⟨xs, rfl, f⟩ | ⟨m, xs, rfl, hn, hx, hm, f⟩
    · simp only [VR] at q ⊢
      obtain ⟨a, us, e, n, t, q⟩ := q
      exact ⟨a, us, e, out_old hw n, t, frzs_vr R hw ys xs us f q⟩
    · simp only [VR] at q ⊢
      obtain ⟨a, e, q⟩ := q
      have hc := R.at_ m a _ q hm
      simp only [CRel] at hc
      obtain ⟨us, t, qs⟩ := hc
      exact ⟨a, us, e, out_new R hw q hn hx, t, frzs_vr R hw ys xs us f qs⟩
  | .dK ys, v, u, f, q => by
    simp only [Frz] at f
    rcases f with ⟨xs, rfl, f⟩ | ⟨m, xs, rfl, hn, hx, hm, f⟩
    · simp only [VR] at q ⊢
      obtain ⟨a, us, e, n, t, q⟩ := q
      exact ⟨a, us, e, out_old hw n, t, frzk_vr R hw ys xs us f q⟩
    · simp only [VR] at q ⊢
      obtain ⟨a, e, q⟩ := q
      have hc := R.at_ m a _ q hm
      simp only [CRel] at hc
      obtain ⟨us, t, qs⟩ := hc
      exact ⟨a, us, e, out_new R hw q hn hx, .inl t, frzk_vr R hw ys xs us f qs⟩
  | .dT ys, v, u, f, q => by
    simp only [Frz] at f
    rcases f with ⟨xs, rfl, f⟩ | ⟨m, xs, rfl, hn, hx, hm, f⟩
    · simp only [VR] at q ⊢
      obtain ⟨a, us, e, n, t, q⟩ := q
      exact ⟨a, us, e, out_old hw n, t, frzt_vr R hw ys xs us f q⟩
    · simp only [VR] at q ⊢
      obtain ⟨a, e, q⟩ := q
      have hc := R.at_ m a _ q hm
      simp only [CRel] at hc
      obtain ⟨us, t, qs⟩ := hc
      exact ⟨a, us, e, out_new R hw q hn hx, .inl t, frzt_vr R hw ys xs us f qs⟩
theorem frzs_vr (R : Rel K (r ++ ps) w h2 H) (hw : ∀ d ∈ w', d ∈ w ∨ (r ++ ps)[x]? = some d) : ∀ (y v : List MV) (u : List V), Frzs h2 r.length x v y → VRs K (r ++ ps) w H v u → VRs K r w' H y u
  | [], v, u, f, q => by simp only [Frzs] at f; subst f; simpa [VRs] using q
  | y :: ys, v, u, f, q => by
    simp only [Frzs] at f
    obtain ⟨v1, vs, rfl, f1, f2⟩ := f
    simp only [VRs] at q ⊢
    obtain ⟨u1, t, rfl, q1, q2⟩ := q
    exact ⟨u1, t, rfl, frz_vr R hw y v1 u1 f1 q1, frzs_vr R hw ys vs t f2 q2⟩
theorem frzk_vr (R : Rel K (r ++ ps) w h2 H) (hw : ∀ d ∈ w', d ∈ w ∨ (r ++ ps)[x]? = some d) : ∀ (y v : List (MK × MV)) (u : List (Key × V)), Frzk h2 r.length x v y → VRk K (r ++ ps) w H v u → VRk K r w' H y u
  | [], v, u, f, q => by simp only [Frzk] at f; subst f; simpa [VRk] using q
  | (k, y) :: ys, v, u, f, q => by
    simp only [Frzk] at f
    obtain ⟨v1, vs, rfl, f1, f2⟩ := f
    simp only [VRk] at q ⊢
    obtain ⟨u1, t, rfl, q1, q2⟩ := q
    exact ⟨u1, t, rfl, frz_vr R hw y v1 u1 f1 q1, frzk_vr R hw ys vs t f2 q2⟩
theorem frzt_vr (R : Rel K (r ++ ps) w h2 H) (hw : ∀ d ∈ w', d ∈ w ∨ (r ++ ps)[x]? = some d) : ∀ (y v : List (List MK × MV)) (u : List (List Key × V)), Frzt h2 r.length x v y → VRt K (r ++ ps) w H v u → VRt K r w' H y u
  | [], v, u, f, q => by simp only [Frzt] at f; subst f; simpa [VRt] using q
  | (k, y) :: ys, v, u, f, q => by
    simp only [Frzt] at f
    obtain ⟨v1, vs, rfl, f1, f2⟩ := f
    simp only [VRt] at q ⊢
    obtain ⟨u1, t, rfl, q1, q2⟩ := q
    exact ⟨u1, t, rfl, frz_vr R hw y v1 u1 f1 q1, frzt_vr R hw ys vs t f2 q2⟩
end
/-! what stood already speaks of what stood already -/
mutual
theorem vr_old {H0 : Hp} {w0 : List Addr} (R : Rel K (r ++ ps) w h2 H) (hw : ∀ d ∈ w', d ∈ w ∨ (r ++ ps)[x]? = some d) : ∀ (v : MV) (u0 u : V), VR K r w0 H0 v u0 → VR K (r ++ ps) w H v u → VR K r w' H v u
  | .non, _, u, f, q => by simpa [VR] using q
  | .bl _, _, u, f, q => by simpa [VR] using q
  | .int _, _, u, f, q => by simpa [VR] using q
  | .str _, _, u, f, q => by simpa [VR] using q
  | .scr _, _, u, f, q => by
    simp only [VR] at q ⊢
    obtain ⟨a, e, q⟩ := q
    rcases q with ⟨n, q⟩ | q
    · exact ⟨a, e, .inl ⟨out_old hw n, q⟩⟩
    · exact ⟨a, e, .inr q⟩
  | .ref m, u0, u, f, q => by
    simp only [VR] at f q ⊢
    obtain ⟨a0, _, hm⟩ := f
    obtain ⟨a, e, q⟩ := q
    rw [List.getElem?_append_left (List.getElem?_eq_some_iff.mp hm).1] at q
    exact ⟨a, e, q⟩
  | .tup ys, u0, u, f, q => by
    simp only [VR] at f q ⊢
    obtain ⟨_, us0, _, _, f⟩ := f
    obtain ⟨a, us, e, t, q⟩ := q
    exact ⟨a, us, e, ⟨out_old hw t.1, t.2⟩, vrs_old R hw ys us0 us f q⟩
  | .row ys, u0, u, f, q => by
    simp only [VR] at f q ⊢
    obtain ⟨_, us0, _, _, f⟩ := f
    obtain ⟨a, us, e, t, q⟩ := q
    exact ⟨a, us, e, ⟨out_old hw t.1, t.2⟩, vrs_old R hw ys us0 us f q⟩
  | .lst ys, u0, u, f, q => by
    simp only [VR] at f q ⊢
    obtain ⟨_, us0, _, _, _, f⟩ := f
    obtain ⟨a, us, e, n, t, q⟩ := q
    exact ⟨a, us, e, out_old hw n, t, vrs_old R hw ys us0 us f q⟩
  | .dK ys, u0, u, f, q => by
    simp only [VR] at f q ⊢
    obtain ⟨_, us0, _, _, _, f⟩ := f
    obtain ⟨a, us, e, n, t, q⟩ := q
    exact ⟨a, us, e, out_old hw n, t, vrk_old R hw ys us0 us f q⟩
  | .dT ys, u0, u, f, q => by
    simp only [VR] at f q ⊢
    obtain ⟨_, us0, _, _, _, f⟩ := f
    obtain ⟨a, us, e, n, t, q⟩ := q
    exact ⟨a, us, e, out_old hw n, t, vrt_old R hw ys us0 us f q⟩
theorem vrs_old {H0 : Hp} {w0 : List Addr} (R : Rel K (r ++ ps) w h2 H) (hw : ∀ d ∈ w', d ∈ w ∨ (r ++ ps)[x]? = some d) : ∀ (v : List MV) (u0 u : List V), VRs K r w0 H0 v u0 → VRs K (r ++ ps) w H v u → VRs K r w' H v u
  | [], _, u, f, q => by simpa [VRs] using q
  | y :: ys, u0, u, f, q => by
    simp only [VRs] at f q ⊢
    obtain ⟨_, _, _, f1, f2⟩ := f
    obtain ⟨u1, t, rfl, q1, q2⟩ := q
    exact ⟨u1, t, rfl, vr_old R hw y _ u1 f1 q1, vrs_old R hw ys _ t f2 q2⟩
theorem vrk_old {H0 : Hp} {w0 : List Addr} (R : Rel K (r ++ ps) w h2 H) (hw : ∀ d ∈ w', d ∈ w ∨ (r ++ ps)[x]? = some d) : ∀ (v : List (MK × MV)) (u0 u : List (Key × V)), VRk K r w0 H0 v u0 → VRk K (r ++ ps) w H v u → VRk K r w' H v u
  | [], _, u, f, q => by simpa [VRk] using q
  | (k, y) :: ys, u0, u, f, q => by
    simp only [VRk] at f q ⊢
    obtain ⟨_, _, _, f1, f2⟩ := f
    obtain ⟨u1, t, rfl, q1, q2⟩ := q
    exact ⟨u1, t, rfl, vr_old R hw y _ u1 f1 q1, vrk_old R hw ys _ t f2 q2⟩
theorem vrt_old {H0 : Hp} {w0 : List Addr} (R : Rel K (r ++ ps) w h2 H) (hw : ∀ d ∈ w', d ∈ w ∨ (r ++ ps)[x]? = some d) : ∀ (v : List (List MK × MV)) (u0 u : List (List Key × V)), VRt K r w0 H0 v u0 → VRt K (r ++ ps) w H v u → VRt K r w' H v u
  | [], _, u, f, q => by simpa [VRt] using q
  | (k, y) :: ys, u0, u, f, q => by
    simp only [VRt] at f q ⊢
    obtain ⟨_, _, _, f1, f2⟩ := f
    obtain ⟨u1, t, rfl, q1, q2⟩ := q
    exact ⟨u1, t, rfl, vr_old R hw y _ u1 f1 q1, vrt_old R hw ys _ t f2 q2⟩
end
theorem crel_old {H0 : Hp} {w0 : List Addr} (R : Rel K (r ++ ps) w h2 H) (hw : ∀ d ∈ w', d ∈ w ∨ (r ++ ps)[x]? = some d) {a a0 : Addr} {c : MC} (f : CRel K r w0 H0 a0 c) (q : CRel K (r ++ ps) w H a c) : CRel K r w' H a c := by
  cases c <;> simp only [CRel] at f q ⊢
  · obtain ⟨us0, _, f⟩ := f; obtain ⟨us, e, q⟩ := q; exact ⟨us, e, vrs_old R hw _ us0 us f q⟩
  · obtain ⟨us0, _, f⟩ := f; obtain ⟨us, e, q⟩ := q; exact ⟨us, e, vrk_old R hw _ us0 us f q⟩
  · obtain ⟨us0, _, f⟩ := f; obtain ⟨us, e, q⟩ := q; exact ⟨us, e, vrt_old R hw _ us0 us f q⟩
  · obtain ⟨_, us0, _, f⟩ := f; obtain ⟨o, us, e, q⟩ := q; exact ⟨o, us, e, vrk_old R hw _ us0 us f q⟩
  · obtain ⟨_, us0, _, f⟩ := f; obtain ⟨o, us, e, q⟩ := q; exact ⟨o, us, e, vrt_old R hw _ us0 us f q⟩
  · obtain ⟨e, ps, q1, q2, q3⟩ := q
    refine ⟨e, ps, q1, q2, fun pos cv hc => ?_⟩
    obtain ⟨c, e1, n, e2⟩ := q3 pos cv hc
    exact ⟨c, e1, out_old hw n, e2⟩
theorem crel_frz (R : Rel K (r ++ ps) w h2 H) (hw : ∀ d ∈ w', d ∈ w ∨ (r ++ ps)[x]? = some d) {a : Addr} {c2 c : MC} (f : CFrz h2 r.length x c2 c) (q : CRel K (r ++ ps) w H a c2) : CRel K r w' H a c := by
  cases c <;> cases c2 <;> simp only [CFrz] at f <;> simp only [CRel] at q ⊢
  · obtain ⟨us, e, q⟩ := q; exact ⟨us, e, frzs_vr R hw _ _ us f q⟩
  · obtain ⟨us, e, q⟩ := q; exact ⟨us, e, frzk_vr R hw _ _ us f q⟩
  · obtain ⟨us, e, q⟩ := q; exact ⟨us, e, frzt_vr R hw _ _ us f q⟩
  · obtain ⟨o, us, e, q⟩ := q; exact ⟨o, us, e, frzk_vr R hw _ _ us f q⟩
  · obtain ⟨o, us, e, q⟩ := q; exact ⟨o, us, e, frzt_vr R hw _ _ us f q⟩
/-- the cells that stood -/
theorem rel_cel {h h' : MH} {H0 : Hp} (R0 : Rel K r w h H0) (R : Rel K (r ++ ps) w h2 H) (hw : ∀ d ∈ w', d ∈ w ∨ (r ++ ps)[x]? = some d) (hx : ∀ d, (r ++ ps)[x]? = some d → d ∉ r) (c : CelOK h h2 h' x) (nd : ∀ d ∈ w', ∃ o, H d = some o ∧ ∀ us, o ≠ HO.tup us) : Rel K r w' h' H := by
  obtain ⟨l1, l2, l3⟩ := c
  refine ⟨by rw [l1]; exact R0.len, R0.nd, fun i a c' hi hc' => ?_, fun d hd => ⟨?_, nd d hd⟩⟩
  · have hi2 : (r ++ ps)[i]? = some a := by rw [List.getElem?_append_left (List.getElem?_eq_some_iff.mp hi).1]; exact hi
    rcases l3 i c' hc' with ⟨e1, e2⟩ | ⟨c2, e1, e2⟩
    · exact crel_old R hw (R0.at_ i a c' hi e2) (R.at_ i a c' hi2 e1)
    · rw [← R0.len] at e2
      exact crel_frz R hw e2 (R.at_ i a c2 hi2 e1)
  · rcases hw d hd with q | q
    · exact fun z => (R.wh d q).1 (List.mem_append_left _ z)
    · exact hx d q
end
section
variable {P : Program} {w : World} {K : PySem.W.Frag} {mg : Str → Option Value} {base : Heap} {x : Str} {n k : Nat} {g c : Fn}
theorem Cal.told (F : Cal P w K mg base x n (spM K n g) k) (hc : ∀ args h v h', c args h = some (v, h') → FrzOK g args h v h') : Cal P w K mg base x n (spM K n c) k := F.imp fun us H Q E ⟨hl, r, w', h, vs, v, h', R, V, e, C⟩ => by
  obtain ⟨v2, h2, e2, cel, fz⟩ := hc vs h v h' e
  refine ⟨hl, r, w', h, vs, v2, h2, R, V, e2, fun r2 u H2 F2 R2 V2 => ?_⟩
  obtain ⟨⟨ps, rfl, hps⟩, kp, fr⟩ := F2
  have hx : ∀ d, (r ++ ps)[h2.length]? = some d → False := fun d e => by
    have := (List.getElem?_eq_some_iff.mp e).1
    rw [R2.len] at this
    omega
  rw [← R.len] at fz
  have hw : ∀ d ∈ w', d ∈ w' ∨ (r ++ ps)[h2.length]? = some d := fun d hd => .inl hd
  refine C r u H2 ⟨⟨[], by simp, fun _ z => nomatch z⟩, kp, fr⟩ (rel_cel R R2 hw (fun d e => (hx d e).elim) cel fun d hd => (R2.wh d hd).2) (frz_vr R2 hw v v2 u fz V2)
theorem Cal.fresh (F : Cal P w K mg base x n (spM K n g) k) (hc : ∀ args h v h', c args h = some (v, h') → FrzF g args h v h') : Cal P w K mg base x n (spF K n c) k := F.imp fun us H Q E ⟨hl, r, w', h, vs, v, h', R, V, e, C⟩ => by
  obtain ⟨m, c2, h2, e2, hm, em, cel, fz⟩ := hc vs h v h' e
  refine ⟨hl, r, w', h, vs, .ref m, h2, R, V, e2, fun r2 u H2 F2 R2 V2 => ?_⟩
  obtain ⟨⟨ps, rfl, hps⟩, kp, fr⟩ := F2
  simp only [VR] at V2
  obtain ⟨p, rfl, hp⟩ := V2
  have hpps : p ∈ ps := by
    rw [List.getElem?_append_right (by rw [R.len]; exact hm)] at hp
    exact List.mem_of_getElem? hp
  have hp0 : H p = none := hps p hpps
  have hpr : p ∉ r := R.nin hp0
  have hw : ∀ d ∈ p :: w', d ∈ w' ∨ (r ++ ps)[m]? = some d := fun d hd => by
    rcases List.mem_cons.mp hd with rfl | hd
    · exact .inr hp
    · exact .inl hd
  have hc2 := R2.at_ m p c2 hp em
  rw [← R.len] at fz
  have Rn : Rel K r (p :: w') h' H2 := rel_cel R R2 hw (fun d e => by rw [hp] at e; cases e; exact hpr) cel fun d hd => by
    rcases List.mem_cons.mp hd with rfl | hd
    · exact hc2.ntup
    · exact (R2.wh d hd).2
  refine C r p H2 ⟨⟨[], by simp, fun _ z => nomatch z⟩, kp, fr⟩ hp0 Rn ?_
  cases c2 <;> cases v <;> simp only at fz <;> simp only [CRel] at hc2 <;> simp only [VF]
  · obtain ⟨us, e, q⟩ := hc2; exact ⟨us, e, frzs_vr R2 hw _ _ us fz q⟩
  · obtain ⟨us, e, q⟩ := hc2; exact ⟨us, e, frzk_vr R2 hw _ _ us fz q⟩
  · obtain ⟨us, e, q⟩ := hc2; exact ⟨us, e, frzt_vr R2 hw _ _ us fz q⟩
end
/-! ### the law -/
/-- a def as it stands behind the top -/
def DefAt (K : PySem.W.Frag) (x : Str) (st : Stmt) (f : Addr) (fd : FuncData) : Prop := PySem.W.nsIn K mainGlobals x = some (some (.ref f)) ∧ L2.Fun K x x st f fd
omit [Tabs] in
theorem defAt_mk {K : PySem.W.Frag} {x : Str} {st : Stmt} {f : Addr} {od an : Option Addr} {sl : Array (Option Value)} {oc kV dc pm cd ct : Value} (a : PySem.W.nsIn K mainGlobals x = some (some (.ref f)))
    (l : K.lookup f = some ⟨oc, od, .func (PySem.W.fnOf x x (defArgs st) (defBody st) (defScope st) .none kV dc pm an cd ct), sl⟩) (c : PySem.W.codeIn K cd x = true) (k : PySem.W.keepIn K (.ref f) = true) :
    DefAt K x st f (PySem.W.fnOf x x (defArgs st) (defBody st) (defScope st) .none kV dc pm an cd ct) := ⟨a, fun_mk l c k⟩
/-- the law's promise from its function; ts: the tables of the defs that make lambdas -/
def spLawT (K : PySem.W.Frag) (ts : List Addr) : Sp := fun us H Q _ => ∃ (a : Addr) (ns : List Int), us = [.ref a] ∧ SqL K H a (ns.map V.int) ∧ ns.length ≤ 63 ∧ (∀ z ∈ ns, Builtin.Int.intBits z ≤ 1048576) ∧ (∀ p ∈ ts, H p = some (.tbl #[])) ∧ ∀ H', Q (.bl true) H'
def spLaw (K : PySem.W.Frag) : Sp := fun us H Q _ => ∃ (a : Addr) (ns : List Int), us = [.ref a] ∧ SqL K H a (ns.map V.int) ∧ ns.length ≤ 63 ∧ (∀ z ∈ ns, Builtin.Int.intBits z ≤ 1048576) ∧ Only H ∧ ∀ H', Q (.bl true) H'
theorem law_fnT {P : Program} {w : World} {K : PySem.W.Frag} {mg : Str → Option Value} {base : Heap} {k : Nat} {f : Addr} {fd : FuncData} {ps : List Str} {g : Fn} {ts : List Addr} (F : FnOk P w K mg base CX0 k f fd ps (spM K 1 g)) (nd : ts.Nodup) (ad : ∀ n p, ts[n]? = some p → p = Tabs.adr n)
    (h : ∀ ns : List Int, ns.length ≤ 63 → (∀ z ∈ ns, Builtin.Int.intBits z ≤ 1048576) → ∃ h', g [.scr ns] (tabs0 ts.length) = some (.bl true, h')) : FnOk P w K mg base CX0 k f fd ps (spLawT K ts) := F.imp fun us H Q E ⟨a, ns, e, sq, hl, hb, hT, q⟩ => by
  subst e
  obtain ⟨h', e⟩ := h ns hl hb
  refine ⟨rfl, ts, [], tabs0 ts.length, [.scr ns], .bl true, h', ⟨by simp [tabs0], nd, fun n a c hn hc => ?_, fun d hd => nomatch hd⟩, ?_, e, fun r' u H' F' R' V' => ?_⟩
  · have hl := (List.getElem?_eq_some_iff.mp hn).1
    unfold tabs0 at hc
    rw [List.getElem?_map, List.getElem?_range hl] at hc
    cases hc
    simp only [CRel]
    refine ⟨ad n a hn, #[], hT a (List.mem_of_getElem? hn), True.intro, fun pos cv z => ?_⟩
    have z : codeAmong pos [] = some cv := z
    simp [codeAmong] at z
  · simp only [VRs, VR]
    refine ⟨.ref a, [], rfl, ⟨a, rfl, ?_⟩, rfl⟩
    rcases sq with sq | sq
    · refine .inl ⟨⟨fun z => ?_, by simp⟩, sq⟩
      have := hT a z
      rcases sq with sq | ⟨o, sq⟩ <;> rw [sq] at this <;> cases this
    · exact .inr sq
  · simp only [VR] at V'
    subst V'
    exact q H'
theorem law_fn {P : Program} {w : World} {K : PySem.W.Frag} {mg : Str → Option Value} {base : Heap} {k : Nat} {f : Addr} {fd : FuncData} {ps : List Str} {g : Fn} (F : FnOk P w K mg base CX0 k f fd ps (spM K 1 g))
    (h : ∀ ns : List Int, ns.length ≤ 63 → (∀ z ∈ ns, Builtin.Int.intBits z ≤ 1048576) → ∃ h', g [.scr ns] [] = some (.bl true, h')) : FnOk P w K mg base CX0 k f fd ps (spLaw K) :=
  (law_fnT (ts := []) F List.nodup_nil (fun n p e => by simp at e) h).imp fun us H Q E ⟨a, ns, e, sq, hl, hb, _, q⟩ => ⟨a, ns, e, sq, hl, hb, fun p hp => (nomatch hp), q⟩
end Ew
end

section
set_option Elab.async false
set_option linter.all false
set_option maxRecDepth 100000
set_option maxHeartbeats 4000000
/-! EwJ: more rules: dicts, lists joined, sorted, == of dicts. -/
namespace Ew
open PySem PySem.Spec PyProof.Rows L2
variable [Tabs]
section
variable {K : PySem.W.Frag} {X : Cx} {e a b c o i : Expr} {m ma mb mc mo mi : XE} {pos p : Pos} {es : List Expr} {mas : XA}
/-! ### lists, tuples joined and cut -/
theorem lstC_at {r w : List Addr} {h : MH} {H : Hp} {v : MV} {u : V} {xs : List MV} (R : Rel K r w h H) (q : VR K r w H v u) (e : lstC h v = some xs) : ∃ p us, u = .ref p ∧ H p = some (.lst us) ∧ VRs K r w H xs us := by
  cases v <;> simp only [lstC, reduceCtorEq, Option.some.injEq] at e
  · subst e
    simp only [VR] at q
    obtain ⟨a, us, rfl, _, t, q⟩ := q
    exact ⟨a, us, rfl, t, q⟩
  · split at e
    · rename_i ys e1
      simp only [Option.some.injEq] at e; subst e
      obtain ⟨a, us, rfl, _, t, q⟩ := ref_at R q e1
      exact ⟨a, us, rfl, t, q⟩
    · cases e
theorem bin_wkF {f : MH → MV → MV → Option MV} {t : R2} (hr : ∀ r w h H x y v u1 u2 Q, Rel K r w h H → VR K r w H x u1 → VR K r w H y u2 → f h x y = some v → ContF K r w h H v Q → t u1 u2 H Q) :
    ∀ z H Q, tF K (xOp f ma mb) z H Q → tOp t (tM K ma) (tM K mb) z H Q := fun z H Q ⟨r, w, s, h, v, h', R, S, e, C⟩ => by
  obtain ⟨x, h1, y, e1, e2, e3⟩ := xOp_at e
  exact ⟨r, w, s, h, x, h1, R, S, e1, fun r1 u1 H1 F1 R1 V1 => ⟨r1, w, s, h1, y, h', R1, S.fwd F1, e2, fun r2 u2 H2 F2 R2 V2 =>
    hr r2 w h' H2 x y v u1 u2 Q R2 (VR.fwd F2 _ _ V1) V2 e3 ((C.fwd F1 R1).fwd F2 R2)⟩⟩
theorem mf_cat (ha : ME X a ma) (hb : ME X b mb) : MF X (.BinOp a .Add b pos) (xCat ma mb) := PE.wk (pe_op op_cat ha hb) (bin_wkF fun r w h H x y v u1 u2 Q R V1 V2 e C => by
  unfold opCat at e
  split at e
  · rename_i xs ys e1 e2
    split at e
    · rename_i hl
      simp only [Option.some.injEq] at e; subst e
      obtain ⟨p1, us, rfl, t1, q1⟩ := lstC_at R V1 e1
      obtain ⟨p2, ws, rfl, t2, q2⟩ := lstC_at R V2 e2
      refine ⟨p1, p2, us, ws, rfl, rfl, t1, t2, ?_, fun p hp => C.lst R hp (VRs.append q1 q2)⟩
      rw [← VRs.length q1, ← VRs.length q2, ← szl]; exact hl
    · cases e
  · cases e)
theorem tupV_sq (K : PySem.W.Frag) {r w : List Addr} {H : Hp} {v : MV} {u : V} {xs : List MV} (q : VR K r w H v u) (e : tupV v = some xs) : ∃ p us, u = .ref p ∧ SqT K H p us ∧ VRs K r w H xs us := by
  cases v <;> simp only [tupV, reduceCtorEq, Option.some.injEq] at e
  all_goals
    subst e
    simp only [VR] at q
    obtain ⟨p, us, rfl, t, q⟩ := q
    exact ⟨p, us, rfl, t.sq, q⟩
/-- t + u, the new object known -/
def rCatR (K : PySem.W.Frag) : R2 := fun x y H Q => ∃ a b xs ys, x = .ref a ∧ y = .ref b ∧ SqT K H a xs ∧ SqT K H b ys ∧ xs.length + ys.length ≤ sizeLine ∧ (xs = [] → Q (.ref b) H) ∧ (xs ≠ [] → ys = [] → Q (.ref a) H) ∧ (xs ≠ [] → ys ≠ [] → ∀ (p : Addr) (o : Obj), o.cls = .type "tuple" → o.dict = none → H p = none → Q (.ref p) (upd H p (.frz o (.tup (xs ++ ys)))))
theorem op_catR : OpR X (binaryOp .Add) (rCatR X.K) := by
  intro pins s σ H x y v u Q I rx ry h
  obtain ⟨a, b, xs, ys, rfl, rfl, ha, hb, hz, q0, q1, q2⟩ := h
  by_cases hx : xs = []
  · exact op_catA pins s σ H _ _ v u Q I rx ry ⟨a, b, xs, ys, rfl, rfl, ha, hb, hz, q0, fun n => absurd hx n, fun n => absurd hx n⟩
  · cases rx
    cases ry
    obtain ⟨its, r1, p1, _⟩ := I.tuple ha
    obtain ⟨its2, r2, p2, _⟩ := I.tuple hb
    refine HT.cat_tup p1 p2 (fun z => hx (r1.nil_iff.mp z)) (fun z => ⟨.ref a, H, I, rfl, q1 hx (r2.nil_iff.mp z)⟩) (fun z => ?_) (by rw [← r1.length, ← r2.length]; exact hz)
    refine ⟨.ref s.heap.objs.size, _, I.laid (t' := s.toks) (o := .frz { cls := .type "tuple", data := .seq (its ++ its2).toArray } (.tup (xs ++ ys))) (fun b ob q => Heap.get?_push_of_some _ q) (Nat.le_refl _) ?_, rfl, q2 hx (fun w => z (r2.nil_iff.mpr w)) _ { cls := .type "tuple", data := .seq (its ++ its2).toArray } rfl rfl (I.hok.fresh (Nat.le_refl _))⟩
    exact ⟨Heap.get?_push_size _ rfl, by rw [List.length_append]; exact hz, _, r1.append r2, IsTup.new _ _⟩
/-- t[lo:hi], the new object known -/
def rSlR (K : PySem.W.Frag) : V → Option Int → Option Int → Hp → VK → Prop := fun x lo hi H Q => ∃ a xs, x = .ref a ∧ SqT K H a xs ∧
  (HT.sIx xs.length 0 lo = 0 ∧ HT.sIx xs.length xs.length hi = xs.length → Q (.ref a) H) ∧ (¬ (HT.sIx xs.length 0 lo = 0 ∧ HT.sIx xs.length xs.length hi = xs.length) → ∀ (p : Addr) (o : Obj), o.cls = .type "tuple" → o.dict = none → H p = none → Q (.ref p) (upd H p (.frz o (.tup (cutV xs lo hi)))))
theorem sl_tupR : SlR X (rSlR X.K) := by
  intro pins s σ H x v vl vu lo hi sl Q I rx hs pl pu h
  obtain ⟨a, xs, rfl, hx, q1, q2⟩ := h
  by_cases hw : HT.sIx xs.length 0 lo = 0 ∧ HT.sIx xs.length xs.length hi = xs.length
  · exact sl_tupA pins s σ H _ v vl vu lo hi sl Q I rx hs pl pu ⟨a, xs, rfl, hx, q1, fun n => absurd hw n⟩
  · cases rx
    obtain ⟨its, r, ht, hz⟩ := I.tuple hx
    have hlen : its.toArray.size = xs.length := by rw [List.size_toArray]; exact r.length.symm
    refine ⟨"tuple", _, PyProof.Rows.slot_tuple_getitem.lookup, ht.typeIs, ?_⟩
    refine HT.getItem_tuple_cut ht hs pl pu (by rw [hlen]; exact hw) ?_ (by rw [hlen]; exact hz)
    rw [hlen]
    refine ⟨.ref s.heap.objs.size, _, I.laid (t' := s.toks) (o := .frz { cls := .type "tuple", data := .seq ((its.drop (HT.sIx xs.length 0 lo)).take (HT.sIx xs.length xs.length hi - HT.sIx xs.length 0 lo)).toArray } (.tup (cutV xs lo hi))) (fun b ob q => Heap.get?_push_of_some _ q) (Nat.le_refl _) ?_, rfl, q2 hw _ { cls := .type "tuple", data := .seq ((its.drop (HT.sIx xs.length 0 lo)).take (HT.sIx xs.length xs.length hi - HT.sIx xs.length 0 lo)).toArray } rfl rfl (I.hok.fresh (Nat.le_refl _))⟩
    exact ⟨Heap.get?_push_size _ rfl, Nat.le_trans (cutV_length xs lo hi) hz, _, (r.drop (HT.sIx xs.length 0 lo)).take (HT.sIx xs.length xs.length hi - HT.sIx xs.length 0 lo), IsTup.new _ _⟩
theorem me_catT (ha : ME X a ma) (hb : ME X b mb) : ME X (.BinOp a .Add b pos) (xOp opCatT ma mb) := me_op op_catR (fun r w h H x y v u1 u2 Q R V1 V2 e C => by
  simp only [opCatT] at e
  split at e
  · rename_i xs ys e1 e2
    split at e
    · rename_i hl
      simp only [Option.some.injEq] at e; subst e
      obtain ⟨p1, us, rfl, t1, q1⟩ := tupV_sq X.K V1 e1
      obtain ⟨p2, ws, rfl, t2, q2⟩ := tupV_sq X.K V2 e2
      refine ⟨p1, p2, us, ws, rfl, rfl, t1, t2, ?_, fun z => ?_, fun z1 z => ?_, fun z1 z2 p o hc hd hp => ?_⟩
      · rw [← VRs.length q1, ← VRs.length q2, ← szl]; exact hl
      · have : xs = [] := List.length_eq_zero_iff.mp (by rw [VRs.length q1, z]; rfl)
        subst this
        exact C.now R V2
      · have : ys = [] := List.length_eq_zero_iff.mp (by rw [VRs.length q2, z]; rfl)
        subst this
        have : xs ≠ [] := fun w => z1 (by subst w; simpa [VRs] using q1)
        cases xs with
        | nil => exact absurd rfl this
        | cons x xs => exact C.now R V1
      · have n1 : xs ≠ [] := fun w => z1 (by subst w; simpa [VRs] using q1)
        have n2 : ys ≠ [] := fun w => z2 (by subst w; simpa [VRs] using q2)
        cases xs with
        | nil => exact absurd rfl n1
        | cons x xs =>
          cases ys with
          | nil => exact absurd rfl n2
          | cons y ys => exact C.row hc hd R hp (VRs.append q1 q2)
    · cases e
  · cases e) ha hb
theorem me_slT {lo hi : Option Expr} {ml mh : XO} {p2 : Pos} (he : ME X e m) (hl : MO X lo ml) (hh : MO X hi mh) : ME X (.Subscript e (.Slice lo hi none p2) pos) (xSlT m ml mh) := PE.wk (pe_slice sl_tupR he hl hh) fun z H Q ⟨r, w, s, h, v, h', R, S, e, C⟩ => by
  unfold xSlT at e
  cases e1 : m s h with
  | none => simp [e1] at e
  | some p1 =>
    obtain ⟨x, h1⟩ := p1
    simp only [e1] at e
    cases e2 : ml s h1 with
    | none => simp [e2] at e
    | some p2 =>
      obtain ⟨l, h2⟩ := p2
      simp only [e2] at e
      cases e3 : mh s h2 with
      | none => simp [e3] at e
      | some p3 =>
        obtain ⟨u, h3⟩ := p3
        simp only [e3] at e
        cases e4 : tupV x with
        | none => cases x <;> simp only [tupV, reduceCtorEq] at e4 e
        | some xs =>
          refine ⟨r, w, s, h, _, h1, R, S, e1, fun r1 u1 H1 F1 R1 V1 => ⟨r1, w, s, h1, l, h2, R1, S.fwd F1, e2, fun r2 H2 F2 R2 => ⟨r2, w, s, h2, u, h3, R2, (S.fwd F1).fwd F2, e3, fun r3 H3 F3 R3 => ?_⟩⟩⟩
          have V3 := VR.fwd F3 _ _ (VR.fwd F2 _ _ V1)
          obtain ⟨p, us, rfl, t, q⟩ := tupV_sq X.K V3 e4
          have el := VRs.length q
          have qc : VRs X.K r3 w H3 (cutM xs l u) (cutV us l u) := by
            unfold cutM cutV
            rw [← el]
            exact VRs.take _ (VRs.drop _ q)
          refine ⟨p, us, rfl, t, fun hw => ?_, fun hw l' o hc hd hl' => ?_⟩
          · have hw' : sIxM xs.length 0 l = 0 ∧ sIxM xs.length xs.length u = xs.length := by rw [el]; exact hw
            have ec : cutM xs l u = xs := by unfold cutM; rw [hw'.1, hw'.2]; simp
            cases x <;> simp only [tupV, reduceCtorEq, Option.some.injEq] at e4
            all_goals subst e4
            · simp only [if_pos hw', Option.some.injEq, Prod.mk.injEq] at e
              obtain ⟨rfl, rfl⟩ := e
              exact (((C.fwd F1 R1).fwd F2 R2).fwd F3 R3).now R3 V3
            · simp only [ec, Option.some.injEq, Prod.mk.injEq] at e
              obtain ⟨rfl, rfl⟩ := e
              exact (((C.fwd F1 R1).fwd F2 R2).fwd F3 R3).now R3 V3
          · have hw' : ¬ (sIxM xs.length 0 l = 0 ∧ sIxM xs.length xs.length u = xs.length) := by rw [el]; exact hw
            cases x <;> simp only [tupV, reduceCtorEq, Option.some.injEq] at e4
            all_goals subst e4
            · simp only [if_neg hw', Option.some.injEq, Prod.mk.injEq] at e
              obtain ⟨rfl, rfl⟩ := e
              exact (((C.fwd F1 R1).fwd F2 R2).fwd F3 R3).row hc hd R3 hl' qc
            · simp only [Option.some.injEq, Prod.mk.injEq] at e
              obtain ⟨rfl, rfl⟩ := e
              exact (((C.fwd F1 R1).fwd F2 R2).fwd F3 R3).row hc hd R3 hl' qc
/-! ### the first place -/
theorem find_of {α : Type} {f : α → Bool} : ∀ {xs : List α} {j : Nat}, xs.findIdx? f = some j → ∃ z, xs[j]? = some z ∧ f z = true ∧ ∀ m y, m < j → xs[m]? = some y → f y = false := by
  intro xs j e
  obtain ⟨h1, h2, h3⟩ := List.findIdx?_eq_some_iff_getElem.mp e
  refine ⟨xs[j], List.getElem?_eq_getElem h1, h2, fun m y hm ey => ?_⟩
  have := h3 m hm
  obtain ⟨hl, rfl⟩ := List.getElem?_eq_some_iff.mp ey
  simpa using this
/-- the call of a method of a tuple that has no dict -/
def tBMr (r : V → List V → Hp → VK → Prop) (to : TE) (t : TA) : TE := fun σ H Q => to σ H fun x H1 => (∃ p o us, x = .ref p ∧ o.cls = .type "tuple" ∧ o.dict = none ∧ H1 p = some (.frz o (.tup us))) ∧ t σ H1 fun xs H2 => r x xs H2 Q
theorem pe_bmR {name : Str} {apos cpos : Pos} {id : String} {r : V → List V → Hp → VK → Prop} {to : TE} {t : TA} (pa : PlainAttrs "tuple") (slot : Slot "tuple" name id) (hty : typeOf (.builtin id) = pure (.type "method_descriptor")) (hm : MtR X id r) (ho : PE X o to) (ha : PA X (e :: es) t)
    (hbase : attributeBase o name X.env (eval o X.env) = eval o X.env := by rfl)
    (hfew : ((backTo cpos (starEach (e :: es) X.env)).all (fun x => !x.1) && (backToKw cpos (keywordEach [] X.env)).all (fun x => x.1.isSome)
      && decide ((e :: es).length + ([] : List Keyword).length + (if ([] : List Keyword).isEmpty then 0 else 1) < 30)) = true := by rfl)
    (hline : (apos.endLine == cpos.line) = true := by rfl) (hs : starEach (e :: es) X.env = (false, eval e X.env) :: starEach es X.env := by rfl) (hplain : (backTo cpos (starEach es X.env)).any (·.1) = false := by rfl) :
    PE X (.Call (.Attribute o name apos) (e :: es) [] cpos) (tBMr r to t) := by
  refine ⟨fun pins s σ H Q I h => ?_⟩
  refine wpAny_Call_method_late hbase hfew hline rfl (thn (ho.run pins s σ H _ I h) fun v s1 ⟨x, H1, I1, r1, ⟨p, ob, us, hx, hc, hd, hp⟩, q1⟩ => ?_)
  subst hx
  cases r1
  obtain ⟨h1, _⟩ := I1.hok p _ hp
  refine ⟨"tuple", id, pa, slot, hty, ⟨ob, h1, hc⟩, fun a ea => by cases ea; exact ⟨ob, h1, hd⟩, ?_⟩
  have hA := ha.run cpos pins s1 σ H1 _ I1 q1
  rw [hs] at hA ⊢
  refine Calls.callWith_builtin (by show (false || (backTo cpos (starEach es X.env)).any (·.1)) = false; rw [hplain] <;> rfl) (Calls.evalArgs_plain ?_)
  exact thn hA fun us s2 ⟨vs, H2, I2, r2, q2⟩ => hm pins s2 σ H2 (.ref p) vs (Value.ref p) us Q I2 (show RelV (V.ref p) (Value.ref p) from rfl) r2 q2
/-- t.index(k), ints, k is there -/
theorem mt_indexT : MtR X "tuple.index" (fun x xs H Q => ∃ (a : Addr) (ns : List Int) (k : Int), x = .ref a ∧ xs = [.int k] ∧ SqT X.K H a (ns.map V.int) ∧ k ∈ ns ∧ Q (.int (ns.idxOf k : Nat)) H) := by
  intro pins s σ H x xs v us Q I rx rxs h
  obtain ⟨a, ns, k, rfl, rfl, sq, hk, q⟩ := h
  cases rx
  obtain ⟨u, rfl, t, rfl⟩ := vals1 rxs
  obtain ⟨its, rv, pl, _⟩ := I.tuple sq
  exact PySem.SeqAt.tuple_index_ints (vs := its) pl rv.ints hk ⟨.int _, H, I.tok _, ⟨_, rfl⟩, q⟩
theorem me_indexL {apos : Pos} (ho : ME X o mo) (he : ME X e m) (hbase : attributeBase o "index" X.env (eval o X.env) = eval o X.env := by rfl)
    (hfew : ((backTo pos (starEach [e] X.env)).all (fun x => !x.1) && (backToKw pos (keywordEach [] X.env)).all (fun x => x.1.isSome) && decide ([e].length + ([] : List Keyword).length + (if ([] : List Keyword).isEmpty then 0 else 1) < 30)) = true := by rfl)
    (hline : (apos.endLine == pos.line) = true := by rfl) (hs : starEach (e :: []) X.env = (false, eval e X.env) :: starEach [] X.env := by rfl) (hpl : (backTo pos (starEach [] X.env)).any (·.1) = false := by rfl) :
    ME X (.Call (.Attribute o "index" apos) [e] [] pos) (xOp opIndexL mo m) := PE.wk (PE.or2 (pe_bm PySem.F.plainAttrs_list PySem.F.slot_list_index PySem.F.type_list_index mt_index ho (pa_cons he pa_nil hs) hbase hfew hline hs hpl) (pe_bmR PySem.F.plainAttrs_tuple PySem.F.slot_tuple_index PySem.F.type_tuple_index mt_indexT ho (pa_cons he pa_nil hs) hbase hfew hline hs hpl)) fun z H Q ⟨r, w, s, h, v, h', R, S, e, C⟩ => by
  obtain ⟨x, h1, y, e1, e2, e3⟩ := xOp_at e
  by_cases hrow : ∃ xs, x = .row xs
  · obtain ⟨xs, rfl⟩ := hrow
    simp only [opIndexL, opIndexR] at e3
    split at e3
    · rename_i ns k e4
      split at e3
      · rename_i hk
        simp only [Option.some.injEq] at e3
        subst e3
        refine .inr ⟨r, w, s, h, _, h1, R, S, e1, fun r1 u1 H1 F1 R1 V1 => ?_⟩
        have V1' := V1
        simp only [VR] at V1'
        obtain ⟨p, us, rfl, ⟨_, o, hc, hd, t⟩, q⟩ := V1'
        refine ⟨⟨p, o, us, rfl, hc, hd, t⟩, r1, w, s, h1, _, h', R1, S.fwd F1, e2, fun r2 u2 H2 F2 R2 V2 => ?_⟩
        have V3 := VR.fwd F2 _ _ V1
        simp only [VR] at V2 V3
        subst V2
        obtain ⟨p', us', e6, t', q'⟩ := V3
        cases e6
        have e5 := ints_of q' e4
        subst e5
        exact ⟨p, ns, k, rfl, rfl, t'.sq, hk, ((C.fwd F1 R1).fwd F2 R2).now R2 (by simp only [VR])⟩
      · cases e3
    · cases e3
  replace e3 : opIndexL0 h' x y = some v := by
    unfold opIndexL at e3
    split at e3
    · exact absurd ⟨_, rfl⟩ hrow
    · exact e3
  refine .inl ?_
  unfold opIndexL0 at e3
  split at e3
  · rename_i xs e4
    split at e3
    · rename_i f
      rw [Bool.and_eq_true] at f
      cases e5 : xs.findIdx? fun z => feqM z y with
      | none => rw [e5] at e3; cases e3
      | some j =>
        rw [e5] at e3
        simp only [Option.map_some, Option.some.injEq] at e3
        subst e3
        refine ⟨r, w, s, h, x, h1, R, S, e1, fun r1 u1 H1 F1 R1 V1 => ?_⟩
        cases x <;> simp only [lstV, reduceCtorEq, Option.some.injEq] at e4
        rename_i ys
        subst e4
        have V1' := V1
        simp only [VR] at V1'
        obtain ⟨p, us, rfl, _, t, q⟩ := V1'
        refine ⟨.inl ⟨rfl, us, SqL.of t⟩, r1, w, s, h1, y, h', R1, S.fwd F1, e2, fun r2 u2 H2 F2 R2 V2 => ?_⟩
        have V3 := VR.fwd F2 _ _ V1
        simp only [VR] at V3
        obtain ⟨p', us', e6, _, t', q'⟩ := V3
        cases e6
        obtain ⟨z, g1, g2, g3⟩ := find_of e5
        obtain ⟨uz, g4, g5⟩ := VRs.get q' g1
        have fz : flatM z = true := List.all_eq_true.mp f.2 z (List.mem_of_getElem? g1)
        refine ⟨p, us', u2, j, uz, rfl, rfl, SqL.of t', flat_of V2 f.1, flats_of q' f.2, g4, by rw [feq_of V2 g5 f.1 fz]; exact g2, fun m z' hm hz' => ?_, ((C.fwd F1 R1).fwd F2 R2).now R2 (by simp only [VR])⟩
        obtain ⟨y', g6, g7⟩ := VRs.back q' hz'
        rw [feq_of V2 g7 f.1 (List.all_eq_true.mp f.2 y' (List.mem_of_getElem? g6))]
        exact g3 m y' hm g6
    · cases e3
  · cases e3
/-! ### displays -/
abbrev prs (K : PySem.W.Frag) (ps : List (XE × XE)) : List (TE × TE) := ps.map fun q => (tM K q.1, tM K q.2)
abbrev MPs (X : Cx) (pos : Pos) (ks : List (Option Expr)) (vs : List Expr) (ps : List (XE × XE)) : Prop := PPs X pos ks vs (prs X.K ps)
theorem mp_nil : MPs X pos [] [] [] := pps_nil
theorem mp_cons {ks : List (Option Expr)} {vs : List Expr} {ps : List (XE × XE)} (hk : ME X a ma) (hv : ME X b mb) (hr : MPs X pos ks vs ps) : MPs X pos (some a :: ks) (b :: vs) ((ma, mb) :: ps) := pps_cons hk hv hr
theorem pairs_of {s : SM} {z : L2.St} : ∀ {ps : List (XE × XE)} {r w : List Addr} {h h' : MH} {H : Hp} {kvs : List (MK × MV)} {Q : List (V × V) → Hp → Prop}, Rel K r w h H → SR K r w H s z → xPairs ps s h = some (kvs, h') →
    (∀ r' us H', Fwd r H r' H' → Rel K r' w h' H' → VRk K r' w H' kvs us → Q (us.map fun kv => (kV kv.1, kv.2)) H') → tPairs (prs K ps) z H Q
  | [], r, w, h, h', H, kvs, Q, R, S, e, k => by
    simp only [xPairs, Option.some.injEq, Prod.mk.injEq] at e
    obtain ⟨rfl, rfl⟩ := e
    exact k r [] H (Fwd.refl r H) R (by simp [VRk])
  | (a, b) :: ps, r, w, h, h', H, kvs, Q, R, S, e, k => by
    simp only [xPairs] at e
    cases e1 : a s h with
    | none => simp [e1] at e
    | some p1 =>
      obtain ⟨x, h1⟩ := p1
      simp only [e1] at e
      cases e2 : b s h1 with
      | none => simp [e2] at e
      | some p2 =>
        obtain ⟨y, h2⟩ := p2
        simp only [e2] at e
        cases e3 : keyOf x with
        | none => simp [e3] at e
        | some kk =>
          simp only [e3] at e
          cases e4 : xPairs ps s h2 with
          | none => simp [e4] at e
          | some p3 =>
            obtain ⟨qs, h3⟩ := p3
            simp only [e4, Option.some.injEq, Prod.mk.injEq] at e
            obtain ⟨rfl, rfl⟩ := e
            refine ⟨r, w, s, h, x, h1, R, S, e1, fun r1 u1 H1 F1 R1 V1 => ⟨r1, w, s, h1, y, h2, R1, S.fwd F1, e2, fun r2 u2 H2 F2 R2 V2 => ?_⟩⟩
            refine pairs_of R2 ((S.fwd F1).fwd F2) e4 fun r3 us H3 F3 R3 V3 => ?_
            have ek := key_kV V1 e3
            subst ek
            exact k r3 ((kk, u2) :: us) H3 ((F1.tr R1 F2).tr R2 F3) R3 (by simp only [VRk]; exact ⟨u2, us, rfl, VR.fwd F3 _ _ V2, V3⟩)
theorem merge_vr {r w : List Addr} {H : Hp} : ∀ {more kvs : List (MK × MV)} {us ws : List (Key × V)}, VRk K r w H kvs us → VRk K r w H more ws → VRk K r w H (mergeM kvs more) (mergeK us ws)
  | [], kvs, us, ws, q, q2 => by simp only [VRk] at q2; subst q2; exact q
  | (k, v) :: more, kvs, us, ws, q, q2 => by
    simp only [VRk] at q2
    obtain ⟨u, t, rfl, q3, q4⟩ := q2
    show VRk K r w H (mergeM (putM kvs k v) more) (mergeK (putK us k u) t)
    exact merge_vr (VRk.put k q3 q) q4
theorem mf_disp {ks : List (Option Expr)} {vs : List Expr} {ps : List (XE × XE)} (hp : MPs X pos ks vs ps) (hall : ks.all (·.isSome) = true := by rfl) (hl : ks.length = vs.length := by rfl) (h0 : ks ≠ [] := by decide) (h15 : ks.length ≤ 15 := by decide) :
    MF X (.Dict ks vs pos) (xDisp ps) := PE.wk (pe_disp hp hall hl h0 h15) fun z H Q ⟨r, w, s, h, v, h', R, S, e, C⟩ => by
  unfold xDisp at e
  split at e
  · cases e
  · rename_i kvs h1 e1
    split at e
    · rename_i hle
      simp only [Option.some.injEq, Prod.mk.injEq] at e
      obtain ⟨rfl, rfl⟩ := e
      intro p hp0
      refine pairs_of (R.hold hp0) (S.map (Stp.hold R hp0)) e1 fun r2 us H2 F2 R2 V2 => ?_
      have hpr : p ∉ r := R.nin hp0
      have eP : H2 p = some (.dK []) := F2.keep p _ hpr upd_same
      have hm : p ∈ p :: w := List.mem_cons_self
      have nP2 : p ∉ r2 := (R2.wh p hm).1
      refine ⟨eP, us, rfl, by rw [← VRk.length V2]; exact hle, ?_⟩
      have F3 : Fwd r H r2 (upd H2 p (.dK (mergeK [] us))) := by
        refine ⟨?_, fun a o n ea => ?_, fun a o u ea => ?_⟩
        · obtain ⟨qs, rfl, hq⟩ := F2.ext
          refine ⟨qs, rfl, fun q hqm => ?_⟩
          have := hq q hqm
          by_cases ne : q = p
          · subst ne; rw [upd_same] at this; cases this
          · rwa [upd_ne ne] at this
        · have ne : a ≠ p := ne_of_none ea hp0
          rw [upd_ne ne]
          exact F2.keep a o n (by rw [upd_ne ne]; exact ea)
        · have ne : a ≠ p := ne_of_none ea hp0
          rw [upd_ne ne]
          exact F2.frz a o u (by rw [upd_ne ne]; exact ea)
      refine C r2 p _ F3 hp0 (R2.held hm) ?_
      simp only [VF]
      exact ⟨_, upd_same, VRk.map (Stp.held hm) _ _ (merge_vr (by simp [VRk]) V2)⟩
    · cases e
end
/-! ### the keys' view -/
def KeysO (d v : Addr) : HO := .ext fun h => PySem.W.KdlKeysView h v d
section
variable {X : Cx} {o : Expr} {mo : XE} {pos p q apos ppos : Pos}
theorem keys_new {P : Program} {w : World} {H : Hp} {d : Addr} (h : Heap) : ObjOk P w H (h.push { cls := .type "dict_keys", data := .fields #[.ref d] }) h.objs.size (KeysO d h.objs.size) :=
  ⟨⟨_, Heap.get?_push_size _ rfl, rfl, rfl⟩, ⟨_, Heap.get?_push_size _ rfl⟩, fun h1 h2 ⟨o, e, c, dd⟩ k => ⟨o, k o e, c, dd⟩⟩
/-- d.keys() of a dict, locked or not -/
theorem pe_keysV {td : TE} (ho : PE X o td) (hbase : attributeBase o "keys" X.env (eval o X.env) = eval o X.env := by rfl) (hline : (apos.endLine == pos.line) = true := by rfl) :
    PE X (.Call (.Attribute o "keys" apos) [] [] pos) (fun z H Q => td z H fun u H1 => ∃ d kvs, u = .ref d ∧ Rd H1 d (.dK kvs) ∧ ∀ v, H1 v = none → Q (.ref v) (upd H1 v (KeysO d v))) := by
  refine ⟨fun pins s σ H Q I h => ?_⟩
  refine wpAny_Call_method0_late hbase hline (thn (ho.run pins s σ H _ I h) fun v s1 ⟨x, H1, I1, r1, d, kvs, ex, rd, q1⟩ => ?_)
  subst ex
  obtain rfl : v = Value.ref d := r1
  obtain ⟨z, lo, vs, rel, dd⟩ := dk_rd I1.hok rd
  refine ⟨"dict", "dict.keys", F.plainAttrs_dict, F.slot_dict_keys, F.type_dict_keys, dd.typeIs, dd.mapOf.noDict, ?_⟩
  refine Calls.callWith_builtin rfl (PySem.evalArgs_none ?_)
  refine call_meetsIn F.slot_dict_keys dd.typeIs F.entry_dict_keys (F.args_dict_keys_1 _) (PySem.W.kdl_meets_keys (mixKind X.prog X.w) d lo) ⟨⟨vs, dd⟩, ?_⟩
  exact ⟨.ref s1.heap.objs.size, _, I1.laid (a := s1.heap.objs.size) (o := KeysO d s1.heap.objs.size) (t' := s1.toks) (fun _ _ q => Heap.get?_push_of_some _ q) (Nat.le_refl _) (keys_new s1.heap), rfl, q1 _ (I1.hok.fresh (Nat.le_refl _))⟩
theorem view_of {pins : List (Addr × Obj)} {σ : L2.St} {H : Hp} {s : Shared} {d v : Addr} (I : Inv X pins σ H s) (e : H v = some (KeysO d v)) : PySem.W.KdlKeysView s.heap v d := (I.hok v _ e).1
/-- list(d.keys()) -/
theorem call_listKeys (hcalm : X.calm = true) : CallR X (.type "list") (fun xs H Q => ∃ (v d : Addr) (kvs : List (Key × V)), xs = [.ref v] ∧ H v = some (KeysO d v) ∧ Rd H d (.dK kvs) ∧ ∀ p, H p = none → Q (.ref p) (upd H p (.lst (kvs.map fun kv => kV kv.1)))) := by
  intro pins s σ H xs us Q I r q
  obtain ⟨v, d, kvs, rfl, hv, hd, q⟩ := q
  obtain ⟨u, rfl, rx⟩ := vals1 r
  cases rx
  obtain ⟨z, lo, vs, rel, dd⟩ := dk_rd I.hok hd
  obtain ⟨ep, hat⟩ := dd.dictAt
  have ek : (kvs.map fun kv => kV kv.1) = vs.map fun p => kV p.1 := by
    have e := congrArg (List.map kV) rel.keys
    rw [List.map_map, List.map_map] at e
    exact e
  refine PySem.W.kdl_call (PySem.W.kdl_keys (knd := mixKind X.prog X.w) (kvs := vs) (ep := ep)) (I.ok.hd hcalm) ⟨view_of I hv, hat⟩ (by rw [← rel.length]; exact z) fun h' tk acc c' hk hD hacc => ?_
  have hvs : Vals (vs.map fun p => kV p.1) acc.toList := keys_at (by rw [Array.length_toList]; exact hacc.1) fun j v e => hacc.2 j v (by rw [← Array.getElem?_toList]; exact e)
  refine ⟨.ref s.heap.objs.size, _, I.laid (t' := tk) (o := .lst (kvs.map fun kv => kV kv.1)) hk (Nat.le_refl _) ⟨by rw [List.length_map]; exact z, acc.toList, c', by rw [ek]; exact hvs, by rw [Array.toArray_toList]; exact hD⟩, rfl, q _ (I.hok.fresh (Nat.le_refl _))⟩
/-- sorted(d.keys()), ints, any number of them -/
theorem call_sortedKeys (hcalm : X.calm = true) : CallR X (.builtin "sorted") (fun xs H Q => ∃ (v d : Addr) (kvs : List (Key × V)) (ks : List Int), xs = [.ref v] ∧ H v = some (KeysO d v) ∧ Rd H d (.dK kvs) ∧ kvs.map (·.1) = ks.map Sum.inl ∧
    ∀ (ys : List Int) (p : Addr), ys.Perm ks → ys.Pairwise (· ≤ ·) → H p = none → Q (.ref p) (upd H p (.lst (ys.map V.int)))) := by
  intro pins s σ H xs us Q I r q
  obtain ⟨v, d, kvs, ks, rfl, hv, hd, hks, q⟩ := q
  obtain ⟨u, rfl, rx⟩ := vals1 r
  cases rx
  obtain ⟨z, lo, vs, rel, dd⟩ := dk_rd I.hok hd
  obtain ⟨ep, hat⟩ := dd.dictAt
  have hkeys : vs.map (·.1) = ks.map Sum.inl := rel.keys.symm.trans hks
  have hl : vs.length = ks.length := by simpa using congrArg List.length hkeys
  have h16 : vs.length ≤ sizeLine := by rw [← rel.length]; exact z
  refine Calls.call_function_entry PyProof.Rows.kind_sorted PyProof.Rows.plain_sorted PyProof.Rows.entry_sorted (PyProof.Rows.args_sorted1 _) ?_
  unfold Builtin.«sorted»
  refine wpAny_bind (m := checkCount "sorted" 1 1 _) (wpAny_pure ?_)
  refine wpAny_bind (PySem.W.kdu_collect (A := X.A.in1) (PySem.W.kdl_keys (knd := mixKind X.prog X.w) (kvs := vs) (ep := ep)) (I.ok.hd hcalm) ⟨view_of I hv, hat⟩ h16 fun h' tk acc hk hacc => ?_)
  have hal : acc.toList.length = ks.length := by rw [Array.length_toList, hacc.1, hl]
  have hS : IntsAre acc.toList ks := ints_each hal fun j v e => by
    obtain ⟨k, x, e1, e2⟩ := hacc.2 j v (by rw [← Array.getElem?_toList]; exact e)
    have e3 : (vs.map (·.1))[j]? = some k := by rw [List.getElem?_map, e1]; rfl
    rw [hkeys, List.getElem?_map] at e3
    cases e4 : ks[j]? with
    | none => rw [e4] at e3; cases e3
    | some y =>
      rw [e4] at e3
      cases (show Sum.inl y = k from Option.some.inj e3)
      rcases keyIs_shape (show keyIs (Sum.inl y) v = true from e2) with ⟨i, t, ek, ev⟩ | ⟨z, t, ek, ev⟩
      · cases ek
        exact ⟨y, t, rfl, ev⟩
      · cases ek
  have I1 : Inv X pins σ H { s with heap := h', toks := tk } := I.kept hk
  have hsz : acc.toList.length ≤ sizeLine := by rw [hal, ← hl]; exact h16
  refine wpAny_bind (wpAny_newList ?_ (by simpa using hsz))
  have hoL : (h'.push (seqObj "list" acc.toList.toArray 0)).get? h'.objs.size = some (seqObj "list" acc.toList.toArray 0) := Heap.get?_push_size _ rfl
  show wpAny _ _ _ _ _ { s with heap := h'.push (seqObj "list" acc.toList.toArray 0), toks := tk }
  refine wpAny_bind (wpAny_holding (wpAny_call_entry PyProof.Rows.slot_list_sort ⟨_, hoL, rfl⟩ PyProof.Rows.entry_list_sort
    (SrtO.list_sort_ord (s := { s with heap := h'.push (seqObj "list" acc.toList.toArray 0), toks := tk }) SrtO.swo_int hoL hsz (fun h2 => SrtO.ints_sortable hS h2) fun out g1 g2 => ⟨_, rfl, ?_⟩) (PyProof.Rows.args_list_sort _)))
  obtain ⟨k1, k2, k3⟩ := SrtO.ints_out hS g1 g2
  obtain ⟨e', he'⟩ := PyProof.Rows.sortedHeap_at (vs := acc.toList) (out := out.toArray) hoL
  have hlen : ((out.map SrtO.iv).map V.int).length ≤ sizeLine := by
    rw [List.length_map, k2.length_eq, ← hal]
    exact hsz
  refine wpAny_pure ⟨_, rfl, .ref h'.objs.size, upd H h'.objs.size (.lst ((out.map SrtO.iv).map V.int)), I1.laid (t' := tk) (fun b u e => ?_) (Nat.le_refl _) ⟨hlen, out, e', vals_of_ints k1, he'⟩, rfl, q _ _ k2 k3 (I1.hok.fresh (Nat.le_refl _))⟩
  have hb : b ≠ h'.objs.size := Nat.ne_of_lt (Heap.lt_size e)
  rw [PyProof.Rows.sortedHeap_old hb (Nat.lt_succ_of_lt (Heap.lt_size e) |> fun z => by simpa using z)]
  exact Heap.get?_push_of_some _ e
end
end Ew
end

section
set_option Elab.async false
set_option linter.all false
set_option maxRecDepth 100000
set_option maxHeartbeats 4000000
/-! EwK: keys, update, dict(..), == of dicts, walks over keys. -/
namespace Ew
open PySem PySem.Spec PyProof.Rows L2
variable [Tabs]
section
variable {K : PySem.W.Frag} {r w : List Addr} {H : Hp}
theorem keyV_vr (k : MK) : VR K r w H (keyV k) (kV k) := by
  cases k <;> simp only [keyV, VR] <;> rfl
theorem keys_vrs : ∀ {kvs : List (MK × MV)} {us : List (Key × V)}, VRk K r w H kvs us → VRs K r w H (kvs.map fun kv => keyV kv.1) (us.map fun kv => kV kv.1)
  | [], us, q => by simp only [VRk] at q; subst q; simp [VRs]
  | (k, v) :: kvs, us, q => by
    simp only [VRk] at q
    obtain ⟨u, t, rfl, q1, q2⟩ := q
    simp only [List.map_cons, VRs]
    exact ⟨_, _, rfl, keyV_vr k, keys_vrs q2⟩
theorem keys_ints : ∀ {kvs : List (MK × MV)} {us : List (Key × V)} {ns : List Int}, VRk K r w H kvs us → intsOf (kvs.map fun kv => keyV kv.1) = some ns → us.map (·.1) = ns.map Sum.inl
  | [], us, ns, q, e => by
    simp only [VRk] at q; subst q
    simp [intsOf] at e; subst e; rfl
  | (k, v) :: kvs, us, ns, q, e => by
    simp only [VRk] at q
    obtain ⟨u, t, rfl, q1, q2⟩ := q
    cases k with
    | inr x => simp [keyV, intsOf] at e
    | inl i =>
      have e' : (intsOf (kvs.map fun kv => keyV kv.1)).map (i :: ·) = some ns := e
      cases e2 : intsOf (kvs.map fun kv => keyV kv.1) with
      | none => rw [e2] at e'; cases e'
      | some ms =>
        rw [e2] at e'
        simp only [Option.map_some, Option.some.injEq] at e'
        subst e'
        simp only [List.map_cons, keys_ints q2 e2]
end
section
variable {K : PySem.W.Frag} {X : Cx} {e a b c o i : Expr} {m ma mb mc mo mi : XE} {pos p q : Pos} {es : List Expr} {mas : XA}
theorem xUn_at {f : MH → MV → Option MV} {s : SM} {h h' : MH} {v : MV} (e : xUn f ma s h = some (v, h')) : ∃ x, ma s h = some (x, h') ∧ f h' x = some v := by
  unfold xUn at e
  cases e1 : ma s h with
  | none => simp [e1] at e
  | some p1 =>
    obtain ⟨x, h1⟩ := p1
    simp only [e1] at e
    cases e2 : f h1 x with
    | none => simp [e2] at e
    | some v' =>
      simp only [e2, Option.some.injEq, Prod.mk.injEq] at e
      obtain ⟨rfl, rfl⟩ := e
      exact ⟨x, rfl, e2⟩
theorem rd_new {r w : List Addr} {H : Hp} {d v : Addr} {o o2 : HO} (rd : Rd H d o) (hv : H v = none) : Rd (upd H v o2) d o := by
  rcases rd with rd | ⟨od, rd⟩
  · exact .inl (by rw [upd_ne (ne_of_none rd hv)]; exact rd)
  · exact .inr ⟨od, by rw [upd_ne (ne_of_none rd hv)]; exact rd⟩
theorem mf_listKeys {apos : Pos} (hm : X.mg "list" = none) (ho : ME X o mo) (hc : X.calm = true := by rfl) (hg : Gl X "list" := by rfl) (hbase : attributeBase o "keys" X.env (eval o X.env) = eval o X.env := by rfl) (hline : (apos.endLine == pos.line) = true := by rfl)
    (he : starEach [.Call (.Attribute o "keys" apos) [] [] pos] X.env = [(false, eval (.Call (.Attribute o "keys" apos) [] [] pos) X.env)] := by rfl) :
    MF X (.Call (.Name "list" p) [.Call (.Attribute o "keys" apos) [] [] pos] [] q) (xUn fKeys mo) :=
  PE.wk (pe_callTy (call_listKeys hc) hg hm (by decide +kernel) (pa_cons (pe_keysV ho hbase hline) pa_nil he) (by decide +kernel) (by decide +kernel) he) fun z H Q ⟨r, w, s, h, v, h', R, S, e, C⟩ => by
  obtain ⟨x, e1, e2⟩ := xUn_at e
  refine ⟨r, w, s, h, x, h', R, S, e1, fun r1 u1 H1 F1 R1 V1 => ?_⟩
  unfold fKeys at e2
  cases e3 : dictK h' x with
  | none => rw [e3] at e2; cases e2
  | some kvs =>
    rw [e3] at e2
    simp only [Option.map_some, Option.some.injEq] at e2
    subst e2
    obtain ⟨d, us, rfl, rd, q⟩ := dictK_rd R1 V1 e3
    refine ⟨d, us, rfl, rd, fun v hv => ⟨v, d, us, rfl, upd_same, rd_new (r := []) (w := []) rd hv, fun p hp => ?_⟩⟩
    have R2 : Rel X.K r1 w h' (upd H1 v (KeysO d v)) := R1.new hv
    exact ((C.fwd F1 R1).fwd (Fwd.new r1 hv) R2).lst R2 hp (keys_vrs (VRk.map (Fwd.new r1 hv).stp _ _ q))
theorem mf_sortKeys {apos : Pos} (hm : X.mg "sorted" = none) (ho : ME X o mo) (hc : X.calm = true := by rfl) (hg : Gl X "sorted" := by rfl) (hbase : attributeBase o "keys" X.env (eval o X.env) = eval o X.env := by rfl) (hline : (apos.endLine == pos.line) = true := by rfl)
    (he : starEach [.Call (.Attribute o "keys" apos) [] [] pos] X.env = [(false, eval (.Call (.Attribute o "keys" apos) [] [] pos) X.env)] := by rfl) :
    MF X (.Call (.Name "sorted" p) [.Call (.Attribute o "keys" apos) [] [] pos] [] q) (xUn fKeysS mo) :=
  PE.wk (pe_callB (call_sortedKeys hc) hg hm (by decide +kernel) (pa_cons (pe_keysV ho hbase hline) pa_nil he) (by decide +kernel) (by decide +kernel) he) fun z H Q ⟨r, w, s, h, v, h', R, S, e, C⟩ => by
  obtain ⟨x, e1, e2⟩ := xUn_at e
  refine ⟨r, w, s, h, x, h', R, S, e1, fun r1 u1 H1 F1 R1 V1 => ?_⟩
  unfold fKeysS at e2
  split at e2
  · rename_i kvs e3
    cases e4 : intsOf (kvs.map fun kv => keyV kv.1) with
    | none => rw [e4] at e2; cases e2
    | some ns =>
      rw [e4] at e2
      simp only [Option.map_some, Option.some.injEq] at e2
      subst e2
      obtain ⟨d, us, rfl, rd, q⟩ := dictK_rd R1 V1 e3
      refine ⟨d, us, rfl, rd, fun v hv => ⟨v, d, us, ns, rfl, upd_same, rd_new (r := []) (w := []) rd hv, keys_ints q e4, fun ys p hy hs hp => ?_⟩⟩
      have ey : ys = sortI ns := PySem.W.os_sorted_mergeSort hy hs
      subst ey
      have R2 : Rel X.K r1 w h' (upd H1 v (KeysO d v)) := R1.new hv
      exact ((C.fwd F1 R1).fwd (Fwd.new r1 hv) R2).lst R2 hp (VRs.ints _)
  · cases e2
/-- sorted(t), ints -/
theorem call_sortedTup : CallR X (.builtin "sorted") (fun xs H Q => ∃ (a : Addr) (ks : List Int), xs = [.ref a] ∧ SqT X.K H a (ks.map V.int) ∧ ∀ (ys : List Int) (p : Addr), ys.Perm ks → ys.Pairwise (· ≤ ·) → H p = none → Q (.ref p) (upd H p (.lst (ys.map V.int)))) := by
  intro pins s σ H xs us Q I r q
  obtain ⟨a, ks, rfl, hs, q⟩ := q
  obtain ⟨u, rfl, rx⟩ := vals1 r
  cases rx
  obtain ⟨its, rv, ht, hz⟩ := I.tuple hs
  have hS := rv.ints
  have hsz : its.length ≤ sizeLine := by rw [← rv.length]; exact hz
  obtain ⟨o, g1, g2, n, g3⟩ := ht
  refine Calls.call_function_entry PyProof.Rows.kind_sorted PyProof.Rows.plain_sorted PyProof.Rows.entry_sorted (PyProof.Rows.args_sorted1 _) ?_
  unfold Builtin.«sorted»
  refine wpAny_bind (m := checkCount "sorted" 1 1 _) (wpAny_pure ?_)
  refine wpAny_bind (wpAny_collect_seq a (T := "tuple") (.inr rfl) g1 g2 g3 (fun h' hk => ?_) (by simpa using hsz))
  have I1 : Inv X pins σ H { s with heap := h' } := I.kept (t' := s.toks) hk
  refine wpAny_bind (wpAny_newList ?_ (by simpa using hsz))
  have hoL : (h'.push (seqObj "list" its.toArray 0)).get? h'.objs.size = some (seqObj "list" its.toArray 0) := Heap.get?_push_size _ rfl
  show wpAny _ _ _ _ _ { s with heap := h'.push (seqObj "list" its.toArray 0) }
  refine wpAny_bind (wpAny_holding (wpAny_call_entry PyProof.Rows.slot_list_sort ⟨_, hoL, rfl⟩ PyProof.Rows.entry_list_sort
    (SrtO.list_sort_ord (s := { s with heap := h'.push (seqObj "list" its.toArray 0) }) SrtO.swo_int hoL hsz (fun h2 => SrtO.ints_sortable hS h2) fun out g1 g2 => ⟨_, rfl, ?_⟩) (PyProof.Rows.args_list_sort _)))
  obtain ⟨k1, k2, k3⟩ := SrtO.ints_out hS g1 g2
  obtain ⟨e', he'⟩ := PyProof.Rows.sortedHeap_at (vs := its) (out := out.toArray) hoL
  have hlen : ((out.map SrtO.iv).map V.int).length ≤ sizeLine := by
    rw [List.length_map, k2.length_eq]
    simpa using hz
  refine wpAny_pure ⟨_, rfl, .ref h'.objs.size, upd H h'.objs.size (.lst ((out.map SrtO.iv).map V.int)), I1.laid (t' := s.toks) (fun b u e => ?_) (Nat.le_refl _) ⟨hlen, out, e', vals_of_ints k1, he'⟩, rfl, q _ _ k2 k3 (I1.hok.fresh (Nat.le_refl _))⟩
  have hb : b ≠ h'.objs.size := Nat.ne_of_lt (Heap.lt_size e)
  rw [PyProof.Rows.sortedHeap_old hb (Nat.lt_succ_of_lt (Heap.lt_size e) |> fun z => by simpa using z)]
  exact Heap.get?_push_of_some _ e
theorem CallR.or2 {f : Value} {t t' : List V → Hp → VK → Prop} (h : CallR X f t) (h' : CallR X f t') : CallR X f (fun xs H Q => t xs H Q ∨ t' xs H Q) := fun pins s σ H xs us Q I r q => q.elim (h pins s σ H xs us Q I r) (h' pins s σ H xs us Q I r)
theorem lexLe_no {p q : Int × Int} : lexLe p q = true ↔ SrtO.lexB q p = false := by
  rw [SrtO.lexB_no]
  unfold lexLe
  simp only [Bool.or_eq_true, Bool.and_eq_true, decide_eq_true_eq]
  omega
theorem lexLe_anti {p q : Int × Int} (h1 : lexLe p q = true) (h2 : lexLe q p = true) : p = q := by
  unfold lexLe at h1 h2
  simp only [Bool.or_eq_true, Bool.and_eq_true, decide_eq_true_eq] at h1 h2
  exact Prod.ext (by omega) (by omega)
theorem sortedP_eq : ∀ {a b : List (Int × Int)}, a.Perm b → a.Pairwise (fun x y => lexLe x y = true) → b.Pairwise (fun x y => lexLe x y = true) → a = b
  | [], b, h, _, _ => by rw [List.nil_perm.mp h]
  | x :: a, [], h, _, _ => by have := List.perm_nil.mp h; cases this
  | x :: a, y :: b, h, ha, hb => by
    obtain ⟨ha1, ha2⟩ := List.pairwise_cons.mp ha
    obtain ⟨hb1, hb2⟩ := List.pairwise_cons.mp hb
    have e : x = y := by
      have m1 : x ∈ y :: b := h.mem_iff.mp List.mem_cons_self
      have m2 : y ∈ x :: a := h.mem_iff.mpr List.mem_cons_self
      rcases List.mem_cons.mp m1 with q | q
      · exact q
      · rcases List.mem_cons.mp m2 with q2 | q2
        · exact q2.symm
        · exact lexLe_anti (ha1 y q2) (hb1 x q)
    subst e
    rw [sortedP_eq (List.Perm.cons_inv h) ha2 hb2]
theorem sortP_perm (ps : List (Int × Int)) : (sortP ps).Perm ps := List.mergeSort_perm _ _
theorem sortP_sorted (ps : List (Int × Int)) : (sortP ps).Pairwise fun x y => lexLe x y = true := by
  unfold sortP
  refine List.pairwise_mergeSort (fun a b c h1 h2 => ?_) (fun a b => ?_) ps
  · unfold lexLe at h1 h2 ⊢
    simp only [Bool.or_eq_true, Bool.and_eq_true, decide_eq_true_eq] at h1 h2 ⊢
    omega
  · unfold lexLe
    simp only [Bool.or_eq_true, Bool.and_eq_true, decide_eq_true_eq]
    omega
/-- the two ints of a pair -/
def pairAt (H : Hp) : V → Int × Int
  | .ref t => match H t with
    | some (.tup [.int a, .int b]) => (a, b)
    | _ => (0, 0)
  | _ => (0, 0)
theorem pairV_at {r w : List Addr} {H : Hp} {p : Int × Int} {u : V} (q : VR K r w H (pairV p) u) : pairAt H u = p ∧ ∃ t, u = .ref t ∧ H t = some (.tup [.int p.1, .int p.2]) := by
  simp only [pairV, VR, VRs] at q
  obtain ⟨a, us, rfl, ⟨_, ht⟩, u1, t1, rfl, rfl, u2, t2, rfl, rfl, rfl⟩ := q
  exact ⟨by simp only [pairAt, ht], a, rfl, ht⟩
theorem pairsI_vr {r w : List Addr} {H : Hp} : ∀ {xs : List MV} {us : List V} {ps : List (Int × Int)}, VRs K r w H xs us → pairsI xs = some ps → us.map (pairAt H) = ps ∧ ∀ u ∈ us, VR K r w H (pairV (pairAt H u)) u
  | [], us, ps, q, e => by
    simp only [VRs] at q; subst q
    simp only [pairsI, Option.some.injEq] at e; subst e
    exact ⟨rfl, fun u h => nomatch h⟩
  | x :: xs, us, ps, q, e => by
    simp only [VRs] at q
    obtain ⟨u, t, rfl, q1, q2⟩ := q
    unfold pairsI at e
    split at e
    · rename_i a b
      cases e1 : pairsI xs with
      | none => rw [e1] at e; cases e
      | some ps' =>
        rw [e1] at e
        simp only [Option.map_some, Option.some.injEq] at e
        subst e
        obtain ⟨a1, a2⟩ := pairsI_vr q2 e1
        have ea := (pairV_at (p := (a, b)) q1).1
        refine ⟨by rw [List.map_cons, ea, a1], fun v hv => ?_⟩
        rcases List.mem_cons.mp hv with rfl | hv
        · rw [ea]; exact q1
        · exact a2 v hv
    · cases e
theorem vrs_map {r w : List Addr} {H : Hp} {k : V → MV} : ∀ {us : List V}, (∀ u ∈ us, VR K r w H (k u) u) → VRs K r w H (us.map k) us
  | [], _ => by simp [VRs]
  | u :: us, h => by
    simp only [List.map_cons, VRs]
    exact ⟨u, us, rfl, h u List.mem_cons_self, vrs_map fun v hv => h v (List.mem_cons_of_mem _ hv)⟩
theorem mf_sorted (hm : X.mg "sorted" = none) (ha : MA X (e :: es) mas) (hg : Gl X "sorted" := by rfl) (he : starEach (e :: es) X.env = (false, eval e X.env) :: starEach es X.env := by rfl) (hpl : (backTo pos (starEach es X.env)).any (·.1) = false := by rfl) :
    MF X (.Call (.Name "sorted" p) (e :: es) [] pos) (xArgs fSorted mas) := PE.wk (pe_callB (CallR.or2 (CallR.or2 cr_sortedI call_sortedTup) cr_sortedPO) hg hm (by decide +kernel) ha.pa (by decide +kernel) (by decide +kernel) he hpl) fun z H Q ⟨r, w, s, h, v, h', R, S, e, C⟩ => by
  obtain ⟨xs, e1, e2⟩ := xArgs_at e
  refine ⟨r, w, s, h, xs, h', R, S, e1, fun r1 us H1 F1 R1 VA => ?_⟩
  unfold fSorted at e2
  split at e2
  · rename_i v'
    obtain ⟨u, rfl, q⟩ := vrs1 VA
    split at e2
    · rename_i ys e3
      cases e4 : intsOf ys with
      | none =>
        rw [e4] at e2
        simp only at e2
        split at e2
        · rename_i zs e5
          cases e6 : pairsI zs with
          | none => rw [e6] at e2; cases e2
          | some ps =>
            rw [e6] at e2
            simp only [Option.map_some, Option.some.injEq] at e2
            subst e2
            obtain ⟨p, ws, rfl, sq, q2⟩ := list_sq X.K R1 q e5
            obtain ⟨b1, b2⟩ := pairsI_vr q2 e6
            refine .inr ⟨p, ws, pairAt H1, rfl, sq, fun x hx => (pairV_at (b2 x hx)).2, fun ys l hs hb hl => (C.fwd F1 R1).lst R1 hl ?_⟩
            have hp : (ys.map (pairAt H1)).Perm ps := by rw [← b1]; exact hb.perm.map _
            have ho : (ys.map (pairAt H1)).Pairwise fun x y => lexLe x y = true := by
              refine List.pairwise_map.mpr (List.Pairwise.imp (fun {a b} h => ?_) (show ys.Pairwise _ from hs))
              exact lexLe_no.mpr h
            have ey := sortedP_eq (hp.trans (sortP_perm ps).symm) ho (sortP_sorted ps)
            rw [← ey, List.map_map]
            exact vrs_map fun u hu => b2 u (hb.perm.mem_iff.mp hu)
        · cases e2
      | some ns =>
        rw [e4] at e2
        simp only [Option.some.injEq] at e2
        subst e2
        obtain ⟨p, ws, rfl, sq, q2⟩ := seq_sq X.K R1 q e3
        have e5 := ints_of q2 e4
        subst e5
        have fin : ∀ (ys : List Int) (l : Addr), ys.Perm ns → ys.Pairwise (· ≤ ·) → H1 l = none → Q (.ref l) (upd H1 l (.lst (ys.map V.int))) := fun ys l hy hs hl => by
          have ey : ys = sortI ns := PySem.W.os_sorted_mergeSort hy hs
          subst ey
          exact (C.fwd F1 R1).lst R1 hl (VRs.ints _)
        rcases sq with sq | sq
        · exact .inl (.inl ⟨p, ns, rfl, sq, fin⟩)
        · exact .inl (.inr ⟨p, ns, rfl, sq, fin⟩)
    · cases e2
  · cases e2
/-! ### dict(pairs), d.update(e) -/
/-! ### == of dicts -/
/-- the items looked up -/
inductive HitsV (K : PySem.W.Frag) (H : Hp) (ls : List (Key × V)) : List (Key × V) → Bool → Prop
  | nil : HitsV K H ls [] true
  | miss {k : Key} {v : V} {r : List (Key × V)} : valV ls k = none → HitsV K H ls ((k, v) :: r) false
  | hit {k : Key} {v y : V} {d f : PyData} {r : List (Key × V)} {b : Bool} : valV ls k = some y → Dp K H v d → Dp K H y f → SeqAt.shaped d = true → SeqAt.shaped f = true → HitsV K H ls r b → HitsV K H ls ((k, v) :: r) (PyData.eqv d f && b)
theorem hitsV_run {pins : List (Addr × Obj)} {σ : L2.St} {H : Hp} {s : Shared} (I : Inv X pins σ H s) (hu : X.A.in1.units + 64 < cLine) {ls : List (Key × V)} {vb : List (Key × Value)} (rb : KV ls vb) {ks : List (Key × V)} {t : Bool} (h : HitsV X.K H ls ks t) :
    ∀ {va : List (Key × Value)}, KV ks va → PySem.W.KeqHits X.A.in1 s vb va t := by
  induction h with
  | nil => intro va ra; cases ra; exact .nil
  | @miss k v rest e =>
    intro va ra
    cases ra with
    | @cons _ q _ qs h1 h2 =>
      obtain ⟨k', v'⟩ := q
      obtain ⟨h3, h4⟩ := h1
      have h3' : k = k' := h3
      subst h3'
      have rr : RelO none (valueAt vb k) := by rw [← e]; exact rb.val k
      exact .miss (by cases z : valueAt vb k with
        | none => rfl
        | some y => rw [z] at rr; exact rr.elim)
  | @hit k v y d f rest t e d1 d2 s1 s2 hr ih =>
    intro va ra
    cases ra with
    | @cons _ q _ qs h1 h2 =>
      obtain ⟨k', v'⟩ := q
      obtain ⟨h3, h4⟩ := h1
      have h3' : k = k' := h3
      subst h3'
      have rr : RelO (some y) (valueAt vb k) := by rw [← e]; exact rb.val k
      obtain ⟨y', hy, ry⟩ := rr.some_of
      obtain ⟨as, r1⟩ := Dp.reads I d v v' d1 h4
      obtain ⟨bs, r2⟩ := Dp.reads I f y y' d2 ry
      exact .hit hy (PySem.W.keq_at r1 r2 s1 s2 hu) (ih h2)
theorem op_eqDK (hu : X.A.in1.units + 64 < cLine) : OpR X (compareOp .Eq) (fun x y H Q => ∃ a b ks ls t, x = .ref a ∧ y = .ref b ∧ Rd H a (.dK ks) ∧ Rd H b (.dK ls) ∧ HitsV X.K H ls ks t ∧ Q (.bl (ks.length == ls.length && t)) H) := by
  intro pins s σ H x y v u Q I rx ry h
  obtain ⟨a, b, ks, ls, t, rfl, rfl, ha, hb, ht, q⟩ := h
  cases rx
  cases ry
  obtain ⟨_, ya, va, ra, da⟩ := dk_rd I.hok ha
  obtain ⟨_, yb, vb, rb, db⟩ := dk_rd I.hok hb
  have hu1 : X.A.units < cLine := by have : X.A.in1.units = X.A.units + 1 := rfl; omega
  refine PySem.W.keq_eq (knd := mixKind X.prog X.w) (r := t) ya yb da db hu1 (fun _ => hitsV_run I hu rb ht ra) ⟨.bl _, H, I, ?_, q⟩
  show Value.bool _ = Value.bool _
  rw [ra.length, rb.length]
theorem op_neDK (hu : X.A.in1.units + 64 < cLine) : OpR X (compareOp .NotEq) (fun x y H Q => ∃ a b ks ls t, x = .ref a ∧ y = .ref b ∧ Rd H a (.dK ks) ∧ Rd H b (.dK ls) ∧ HitsV X.K H ls ks t ∧ Q (.bl (!(ks.length == ls.length && t))) H) := by
  intro pins s σ H x y v u Q I rx ry h
  obtain ⟨a, b, ks, ls, t, rfl, rfl, ha, hb, ht, q⟩ := h
  cases rx
  cases ry
  obtain ⟨_, ya, va, ra, da⟩ := dk_rd I.hok ha
  obtain ⟨_, yb, vb, rb, db⟩ := dk_rd I.hok hb
  have hu1 : X.A.units < cLine := by have : X.A.in1.units = X.A.units + 1 := rfl; omega
  refine PySem.W.keq_ne (knd := mixKind X.prog X.w) (r := t) ya yb da db hu1 (fun _ => hitsV_run I hu rb ht ra) ⟨.bl _, H, I, ?_, q⟩
  show Value.bool _ = Value.bool _
  rw [ra.length, rb.length]
theorem isD_mono : ∀ (n k : Nat) (v : MV), n ≤ k → isD n v = true → isD k v = true := by
  have key : ∀ n k, n ≤ k → (∀ v, isD n v = true → isD k v = true) ∧ ∀ vs, isDs n vs = true → isDs k vs = true := by
    intro n
    induction n with
    | zero =>
      intro k hk
      have h1 : ∀ v, isD 0 v = true → isD k v = true := fun v h => by cases v <;> cases k <;> simp_all [isD]
      refine ⟨h1, fun vs => ?_⟩
      induction vs with
      | nil => intro _; simp [isDs]
      | cons v vs ih => intro h; simp only [isDs, Bool.and_eq_true] at h ⊢; exact ⟨h1 v h.1, ih h.2⟩
    | succ n ih =>
      intro k hk
      obtain ⟨k, rfl⟩ : ∃ j, k = j + 1 := ⟨k - 1, by omega⟩
      have h1 : ∀ v, isD (n + 1) v = true → isD (k + 1) v = true := fun v h => by
        cases v <;> simp only [isD] at h ⊢ <;> first | exact h | exact (ih k (by omega)).2 _ h
      refine ⟨h1, fun vs => ?_⟩
      induction vs with
      | nil => intro _; simp [isDs]
      | cons v vs ih => intro h; simp only [isDs, Bool.and_eq_true] at h ⊢; exact ⟨h1 v h.1, ih h.2⟩
  exact fun n k v hk => (key n k hk).1 v
theorem hits_of {r w : List Addr} {H : Hp} {ys : List (MK × MV)} {ls : List (Key × V)} (q2 : VRk K r w H ys ls) (d2 : dataKs ys = true) : ∀ {xs : List (MK × MV)} {ks : List (Key × V)}, VRk K r w H xs ks → dataKs xs = true →
    HitsV K H ls ks (xs.all fun kv => match getK ys kv.1 with | some y => eqD kv.2 y | none => false)
  | [], ks, q, _ => by simp only [VRk] at q; subst q; exact .nil
  | (k, v) :: xs, ks, q, d => by
    simp only [VRk] at q
    obtain ⟨u, t, rfl, q3, q4⟩ := q
    unfold dataKs at d
    rw [List.all_cons, Bool.and_eq_true] at d
    rw [List.all_cons]
    have ih := hits_of q2 d2 q4 (by unfold dataKs; exact d.2)
    rcases VRk.get k q2 with ⟨g1, g2⟩ | ⟨x, u2, g1, g2, g3⟩
    · simp only [g1, Bool.false_and]
      exact .miss g2
    · simp only [g1]
      have dx : isD 60 v = true := isD_mono 50 60 v (by omega) d.1
      have dy : isD 60 x = true := by
        have : ∃ kv ∈ ys, kv.2 = x := by
          unfold getK at g1
          cases e : ys.find? fun kv => decide (kv.1 = k) with
          | none => rw [e] at g1; cases g1
          | some kv =>
            rw [e] at g1
            exact ⟨kv, List.mem_of_find?_eq_some e, by simpa using g1⟩
        obtain ⟨kv, hm, rfl⟩ := this
        exact isD_mono 50 60 _ (by omega) (List.all_eq_true.mp d2 kv hm)
      rw [← toP_eqv v x 60 dx dy]
      exact .hit g2 (toP_dp K v u 60 dx q3) (toP_dp K x u2 60 dy g3) (shaped_of dx) (shaped_of dy) ih
theorem OpR.or2 {f : Value → Value → Sem Value} {t t' : R2} (h : OpR X f t) (h' : OpR X f t') : OpR X f (fun x y H Q => t x y H Q ∨ t' x y H Q) := fun pins s σ H x y v u Q I rx ry q => q.elim (h pins s σ H x y v u Q I rx ry) (h' pins s σ H x y v u Q I rx ry)
theorem Room.u1 {k : Nat} (hr : Room k X.A) : X.A.in1.units + 64 < cLine := by
  have h := hr.un
  have : X.A.in1.units = X.A.units + 1 := rfl
  omega
theorem c_eqA {k : Nat} (hr : Room k X.A) (ha : ME X a ma) (hb : ME X b mb) : ME X (.Compare a [.Eq] [b] pos) (xOp opEq ma mb) ∧ MT X (.Compare a [.Eq] [b] pos) (xB (xOp opEq ma mb)) := c_cmp (OpR.or2 (op_eqDK (Room.u1 hr)) (op_eqD hr.units)) (fun r w h H x y v u1 u2 Q R V1 V2 e C => by
  unfold opEq at e
  split at e
  · rename_i xs ys e1 e2
    split at e
    · rename_i d
      rw [Bool.and_eq_true] at d
      simp only [Option.some.injEq] at e
      subst e
      obtain ⟨a, ks, rfl, rd, q⟩ := dictK_rd R V1 e1
      obtain ⟨b, ls, rfl, rd2, q2⟩ := dictK_rd R V2 e2
      refine .inl ⟨a, b, ks, ls, _, rfl, rfl, rd, rd2, hits_of q2 d.2 q d.1, C.now R ?_⟩
      simp only [VR, eqKs]
      rw [VRk.length q, VRk.length q2]
      try rfl
    · cases e
  · unfold opEq0 eqM at e
    split at e
    · rename_i d
      rw [Bool.and_eq_true] at d
      simp only [Option.map_some, Option.some.injEq] at e
      subst e
      refine .inr ⟨_, _, rd_dp X.K R V1 d.1, rd_dp X.K R V2 d.2, shaped_of d.1, shaped_of d.2, C.now R ?_⟩
      simp only [VR]
      rw [toP_eqv _ _ 60 d.1 d.2]
    · cases e) ha hb (nomark _)
theorem c_neA {k : Nat} (hr : Room k X.A) (ha : ME X a ma) (hb : ME X b mb) : ME X (.Compare a [.NotEq] [b] pos) (xOp opNe ma mb) ∧ MT X (.Compare a [.NotEq] [b] pos) (xB (xOp opNe ma mb)) := c_cmp (OpR.or2 (op_neDK (Room.u1 hr)) (op_neD hr.units)) (fun r w h H x y v u1 u2 Q R V1 V2 e C => by
  unfold opNe at e
  split at e
  · rename_i xs ys e1 e2
    split at e
    · rename_i d
      rw [Bool.and_eq_true] at d
      simp only [Option.some.injEq] at e
      subst e
      obtain ⟨a, ks, rfl, rd, q⟩ := dictK_rd R V1 e1
      obtain ⟨b, ls, rfl, rd2, q2⟩ := dictK_rd R V2 e2
      refine .inl ⟨a, b, ks, ls, _, rfl, rfl, rd, rd2, hits_of q2 d.2 q d.1, C.now R ?_⟩
      simp only [VR, eqKs]
      rw [VRk.length q, VRk.length q2]
      try rfl
    · cases e
  · unfold opNe0 eqM at e
    split at e
    · rename_i d
      rw [Bool.and_eq_true] at d
      simp only [Option.map_some, Option.some.injEq] at e
      subst e
      refine .inr ⟨_, _, rd_dp X.K R V1 d.1, rd_dp X.K R V2 d.2, shaped_of d.1, shaped_of d.2, C.now R ?_⟩
      simp only [VR]
      rw [toP_eqv _ _ 60 d.1 d.2]
    · cases e) ha hb (nomark _)
/-! ### unpacking a list -/
theorem mg_unl {gs : XGs} {k n : Nat} (h : MGs X es gs) (hn : (assignEach es X.env).length = n := by rfl) (hst : (assignEach es X.env).findIdx? (·.1) = none := by rfl) (hc : X.calm = true := by rfl) : MG X (.Tuple es k pos) (gLp n gs) := PG.wk (pg_unl hc h hn hst) fun u z H Q ⟨r, w, s, h, v, s', h', R, S, V, e, C⟩ => by
  unfold gLp at e
  split at e
  · rename_i xs e1
    split at e
    · rename_i hl
      obtain ⟨p, us, rfl, sq, q⟩ := list_sq X.K R V e1
      exact ⟨p, us, rfl, sq, by rw [← VRs.length q]; exact hl, r, w, s, h, xs, s', h', R, S, q, e, C⟩
    · cases e
  · cases e
/-! ### for k in d.keys() -/
theorem Stp.lockK {r w : List Addr} {H : Hp} {d : Addr} {od : Obj} {us : List (Key × V)} (e : H d = some (.dK us)) : Stp r w H r w (upd H d (.frz od (.dK us))) := ⟨fun _ _ h => h, fun a o n ea => ⟨n, by
  by_cases q : a = d
  · subst q
    rw [e] at ea; cases ea
    exact .inr (.inl ⟨od, us, rfl, upd_same⟩)
  · exact .inl (by rw [upd_ne q]; exact ea)⟩⟩
theorem Stp.unlockK {r w : List Addr} {H : Hp} {d : Addr} {od : Obj} {us : List (Key × V)} (e : H d = some (.frz od (.dK us))) : Stp r w H r w (upd H d (.dK us)) := ⟨fun _ _ h => h, fun a o n ea => ⟨n, by
  by_cases q : a = d
  · subst q
    rw [e] at ea; cases ea
    exact .inr (.inr (.inl ⟨od, us, rfl, upd_same⟩))
  · exact .inl (by rw [upd_ne q]; exact ea)⟩⟩
theorem Rel.stp {r w : List Addr} {h : MH} {H : Hp} {d : Addr} {o : HO} (R : Rel K r w h H) (F : Stp r w H r w (upd H d o)) (hd : d ∉ r) (nt : ∀ us, o ≠ HO.tup us := by intro _ z; cases z) : Rel K r w h (upd H d o) :=
  ⟨R.len, R.nd, fun n a c hn hc => (R.at_ n a c hn hc).map F (upd_ne fun z => hd (by rw [← z]; exact List.mem_of_getElem? hn)), fun p hp => by
    obtain ⟨n, u, e, nu⟩ := R.wh p hp
    refine ⟨n, ?_⟩
    by_cases q : p = d
    · exact ⟨o, by rw [q, upd_same], nt⟩
    · exact ⟨u, by rw [upd_ne q]; exact e, nu⟩⟩
theorem walks_keys (K : PySem.W.Frag) {r w : List Addr} {H : Hp} {d : Addr} {od : Obj} {kvs : List (MK × MV)} {us : List (Key × V)} (e : H d = some (.frz od (.dK us))) (q : VRk K r w H kvs us) : Walks K (Itk d od us) (kvs.map fun kv => keyV kv.1) r w H := by
  have hk : us.map (·.1) = kvs.map (·.1) := VRk.keys q
  have hl : us.length = kvs.length := by simpa using congrArg List.length hk
  refine ⟨fun i r1 w1 H1 h1 F _ R1 hi => ⟨⟨F.frz _ _ _ e, by rw [hl]; simpa using hi⟩, fun x H2 ⟨eH, k, v, e1, e2⟩ => ?_⟩, fun i r1 w1 H1 h1 F _ R1 hi => ⟨F.frz _ _ _ e, by rw [hl]; exact Nat.le_of_eq (by simpa using hi)⟩⟩
  subst eH e2
  refine ⟨Fwd.refl _ _, R1, keyV k, ?_, keyV_vr k⟩
  have e3 : (us.map (·.1))[i]? = some k := by rw [List.getElem?_map, e1]; rfl
  rw [hk, List.getElem?_map] at e3
  cases e4 : kvs[i]? with
  | none => rw [e4] at e3; cases e3
  | some kv =>
    rw [e4] at e3
    rw [List.getElem?_map, e4]
    have e5 : kv.1 = k := Option.some.inj e3
    rw [← e5]
    rfl
theorem Fwd.relock {r r1 : List Addr} {H H1 : Hp} {d : Addr} {od : Obj} {us : List (Key × V)} (e : H d = some (.dK us)) (F : Fwd r (upd H d (.frz od (.dK us))) r1 H1) : H1 d = some (.frz od (.dK us)) ∧ Fwd r H r1 (upd H1 d (.dK us)) := by
  have h1 : H1 d = some (.frz od (.dK us)) := F.frz _ _ _ upd_same
  refine ⟨h1, ?_, fun a o n ea => ?_, fun a o u ea => ?_⟩
  · obtain ⟨ps, rfl, hp⟩ := F.ext
    refine ⟨ps, rfl, fun p hm => ?_⟩
    have := hp p hm
    by_cases ne : p = d
    · subst ne; rw [upd_same] at this; cases this
    · rwa [upd_ne ne] at this
  · by_cases ne : a = d
    · subst ne
      rw [upd_same, ← e, ea]
    · rw [upd_ne ne]
      exact F.keep a o n (by rw [upd_ne ne]; exact ea)
  · have ne : a ≠ d := fun z => by rw [z, e] at ea; cases ea
    rw [upd_ne ne]
    exact F.frz a o u (by rw [upd_ne ne]; exact ea)
/-- a cell's dict is locked, unlocked -/
theorem Rel.lock {r w : List Addr} {h : MH} {H : Hp} {n : Nat} {d : Addr} {od : Obj} {us : List (Key × V)} {kvs : List (MK × MV)} (R : Rel K r w h H) (hn : r[n]? = some d) (e : H d = some (.dK us)) (q : VRk K r w H kvs us) : Rel K r w (h.set n (.lkK kvs)) (upd H d (.frz od (.dK us))) := by
  have St : Stp r w H r w (upd H d (.frz od (.dK us))) := Stp.lockK e
  have hd : d ∈ r := List.mem_of_getElem? hn
  refine ⟨by rw [List.length_set]; exact R.len, R.nd, fun m a c hm hc => ?_, fun p hp => ?_⟩
  · by_cases z : m = n
    · subst z
      rw [hm] at hn; cases hn
      have hl := (List.getElem?_eq_some_iff.mp hc).1
      rw [List.length_set] at hl
      rw [List.getElem?_set_self hl] at hc
      cases hc
      exact ⟨od, us, upd_same, VRk.map St _ _ q⟩
    · rw [List.getElem?_set_ne (Ne.symm z)] at hc
      refine (R.at_ m a c hm hc).map St (upd_ne fun ea => z ?_)
      subst ea
      exact (List.getElem?_inj (List.getElem?_eq_some_iff.mp hm).1 R.nd).mp (hm.trans hn.symm)
  · obtain ⟨np, o, ep, nu⟩ := R.wh p hp
    exact ⟨np, o, by rw [upd_ne (fun z => np (by rw [z]; exact hd))]; exact ep, nu⟩
theorem Rel.unlock {r w : List Addr} {h : MH} {H : Hp} {n : Nat} {d : Addr} {od : Obj} {us : List (Key × V)} {kvs : List (MK × MV)} (R : Rel K r w h H) (hn : r[n]? = some d) (e : H d = some (.frz od (.dK us))) (hc : h[n]? = some (.lkK kvs)) : Rel K r w (h.set n (.dK kvs)) (upd H d (.dK us)) := by
  have St : Stp r w H r w (upd H d (.dK us)) := Stp.unlockK e
  have hd : d ∈ r := List.mem_of_getElem? hn
  have c0 := R.at_ n d _ hn hc
  simp only [CRel] at c0
  obtain ⟨o, us', e2, q⟩ := c0
  rw [e] at e2
  cases e2
  refine ⟨by rw [List.length_set]; exact R.len, R.nd, fun m a c hm hc => ?_, fun p hp => ?_⟩
  · by_cases z : m = n
    · subst z
      rw [hm] at hn; cases hn
      have hl := (List.getElem?_eq_some_iff.mp hc).1
      rw [List.length_set] at hl
      rw [List.getElem?_set_self hl] at hc
      cases hc
      exact ⟨us, upd_same, VRk.map St _ _ q⟩
    · rw [List.getElem?_set_ne (Ne.symm z)] at hc
      refine (R.at_ m a c hm hc).map St (upd_ne fun ea => z ?_)
      subst ea
      exact (List.getElem?_inj (List.getElem?_eq_some_iff.mp hm).1 R.nd).mp (hm.trans hn.symm)
  · obtain ⟨np, o, ep, nu⟩ := R.wh p hp
    exact ⟨np, o, by rw [upd_ne (fun z => np (by rw [z]; exact hd))]; exact ep, nu⟩
variable {sts : List Stmt} {x : XS} {g : XG} {tg : Expr}
theorem ms_forK {n : Nat} {t : Str} {p1 apos cpos : Pos} (hN : X.N[n]? = some t := by rfl) (hg : MG X tg g) (hb : MSs X sts x) (hv : Vis X.env.scope t := by first | exact Or.inl rfl | exact Or.inr (Or.inl rfl) | exact Or.inr (Or.inr rfl)) (hd : (t == ("__debug__" : Str)) = false := by decide +kernel)
    (hcd : (t == ("__classdict__" : Str)) = false := by decide +kernel) (hs : ∀ x, foldedSetIterable (.Call (.Attribute (.Name t p1) "keys" apos) [] [] cpos) X.env x = pure x := by intro _; rfl) (hp : PassesOwn (model X.prog X.w) X.A X.env X.xe := by exact PassesOwn.never) (hc : X.calm = true := by rfl)
    (hbase : attributeBase (.Name t p1) "keys" X.env (eval (.Name t p1) X.env) = eval (.Name t p1) X.env := by rfl) (hline : (apos.endLine == cpos.line) = true := by rfl) :
    MS X (.For tg (.Call (.Attribute (.Name t p1) "keys" apos) [] [] cpos) sts [] pos) (sForK n g x) := by
  have base := ps_for (pos := pos) hp hc (pi_keysM (apos := apos) (cpos := cpos) (pe_var (pos := p1) hN hv hd hcd) hbase hline) hg hb
  refine PS.wk (PS.or2 base (ps_lock base)) fun D z H ⟨r, w, s, h, f, s', h', R, S, e, C⟩ => ?_
  unfold sForK at e
  split at e
  · rename_i kvs e1
    obtain ⟨u, g1, g2⟩ := S.2 n _ e1
    have g2' := g2
    simp only [VR] at g2'
    obtain ⟨d, us, rfl, nd, rd, q⟩ := g2'
    rcases rd with rd | ⟨od, rd⟩
    · refine .inr ⟨d, .dK us, rd, True.intro, fun od => ?_⟩
      have St : Stp r w H r w (upd H d (.frz od (.dK us))) := Stp.lockK rd
      have R1 := R.stp St nd.1
      refine ⟨.ref d, g1, d, od, us, rfl, upd_same, ?_⟩
      refine for_vals (tb := tS X.K x) (walks_keys X.K upd_same (VRk.map St _ _ q)) R1 (S.map St) e ?_
      have back : ∀ {r1 : List Addr} {H1 : Hp} {h1 : MH}, Fwd r (upd H d (.frz od (.dK us))) r1 H1 → Rel X.K r1 w h1 H1 → H1 d = some (.frz od (.dK us)) ∧ Fwd r H r1 (upd H1 d (.dK us)) ∧ Stp r1 w H1 r1 w (upd H1 d (.dK us)) ∧ Rel X.K r1 w h1 (upd H1 d (.dK us)) := fun {r1 H1 h1} F R1 => by
        obtain ⟨a1, a2⟩ := Fwd.relock rd F
        have St2 := Stp.unlockK (r := r1) (w := w) a1
        exact ⟨a1, a2, St2, R1.stp St2 (F.nin nd.1 upd_same)⟩
      cases f <;> simp only [EndS] at C ⊢
      · exact fun r1 z1 H1 F R1 S1 => by obtain ⟨a1, a2, a3, a4⟩ := back F R1; exact ⟨a1, C r1 z1 _ a2 a4 (S1.map a3)⟩
      · exact fun r1 u1 H1 F R1 V1 => by obtain ⟨a1, a2, a3, a4⟩ := back F R1; exact ⟨a1, C r1 u1 _ a2 a4 (VR.map a3 _ _ V1)⟩
      · exact fun r1 z1 H1 F R1 S1 => by obtain ⟨a1, a2, a3, a4⟩ := back F R1; exact ⟨a1, C r1 z1 _ a2 a4 (S1.map a3)⟩
      · exact fun r1 z1 H1 F R1 S1 => by obtain ⟨a1, a2, a3, a4⟩ := back F R1; exact ⟨a1, C r1 z1 _ a2 a4 (S1.map a3)⟩
    · exact .inl ⟨.ref d, g1, d, od, us, rfl, rd, for_vals (tb := tS X.K x) (walks_keys X.K rd q) R S e C⟩
  · rename_i m e1
    split at e
    · rename_i kvs e2
      cases e3 : forGo g x (kvs.map fun kv => keyV kv.1) s (h.set m (.lkK kvs)) with
      | none => rw [e3] at e; cases e
      | some t3 =>
        obtain ⟨f1, s1, h1⟩ := t3
        rw [e3] at e
        simp only at e
        split at e
        · rename_i kvs' e4
          simp only [Option.some.injEq, Prod.mk.injEq] at e
          obtain ⟨rfl, rfl, rfl⟩ := e
          obtain ⟨u, g1, g2⟩ := S.2 n _ e1
          simp only [VR] at g2
          obtain ⟨d, rfl, hm⟩ := g2
          have c0 := R.at_ m d _ hm e2
          simp only [CRel] at c0
          obtain ⟨us, rd, q⟩ := c0
          refine .inr ⟨d, .dK us, rd, True.intro, fun od => ?_⟩
          have St : Stp r w H r w (upd H d (.frz od (.dK us))) := Stp.lockK rd
          have R1 := R.lock (od := od) hm rd q
          refine ⟨.ref d, g1, d, od, us, rfl, upd_same, ?_⟩
          refine for_vals (tb := tS X.K x) (walks_keys X.K upd_same (VRk.map St _ _ q)) R1 (S.map St) e3 ?_
          have back : ∀ {r1 : List Addr} {H1 : Hp}, Fwd r (upd H d (.frz od (.dK us))) r1 H1 → Rel X.K r1 w h1 H1 → H1 d = some (.frz od (.dK us)) ∧ Fwd r H r1 (upd H1 d (.dK us)) ∧ Stp r1 w H1 r1 w (upd H1 d (.dK us)) ∧ Rel X.K r1 w (h1.set m (.dK kvs')) (upd H1 d (.dK us)) := fun {r1 H1} F R1 => by
            obtain ⟨a1, a2⟩ := Fwd.relock rd F
            exact ⟨a1, a2, Stp.unlockK a1, R1.unlock (F.at_ hm) a1 e4⟩
          cases f1 <;> simp only [EndS] at C ⊢
          · exact fun r1 z1 H1 F R1 S1 => by obtain ⟨a1, a2, a3, a4⟩ := back F R1; exact ⟨a1, C r1 z1 _ a2 a4 (S1.map a3)⟩
          · exact fun r1 u1 H1 F R1 V1 => by obtain ⟨a1, a2, a3, a4⟩ := back F R1; exact ⟨a1, C r1 u1 _ a2 a4 (VR.map a3 _ _ V1)⟩
          · exact fun r1 z1 H1 F R1 S1 => by obtain ⟨a1, a2, a3, a4⟩ := back F R1; exact ⟨a1, C r1 z1 _ a2 a4 (S1.map a3)⟩
          · exact fun r1 z1 H1 F R1 S1 => by obtain ⟨a1, a2, a3, a4⟩ := back F R1; exact ⟨a1, C r1 z1 _ a2 a4 (S1.map a3)⟩
        · cases e
    · cases e
  · cases e
/-! ### [.. for k in d.keys()] -/
/-! ### tuple(d.keys()), t[::-1] -/
end
end Ew
end

section
set_option Elab.async false
set_option linter.all false
set_option maxRecDepth 100000
set_option maxHeartbeats 4000000
/-! EwL: t[::-1], enumerate(t), tuple(d.keys()). -/
namespace Ew
open PySem PySem.Spec PyProof.Rows L2 HT
variable [Tabs]
section
variable {prog : Program} {w : World} {A : Around} {E : Value → Shared → Prop} {s : Shared}
end
section
variable {K : PySem.W.Frag} {X : Cx} {e a b c o i : Expr} {m ma mb mc mo mi : XE} {pos p q : Pos} {es : List Expr} {mas : XA}
theorem VRs.reverse {r w : List Addr} {H : Hp} {xs : List MV} {us : List V} (h : VRs K r w H xs us) : VRs K r w H xs.reverse us.reverse := by
  induction xs generalizing us with
  | nil => simp only [VRs] at h; subst h; simp [VRs]
  | cons x xs ih =>
    simp only [VRs] at h
    obtain ⟨u, t, rfl, q1, q2⟩ := h
    rw [List.reverse_cons, List.reverse_cons]
    exact VRs.append (ih q2) (VRs.one q1)
end
/-! ### enumerate(t) -/
section
variable {prog : Program} {w : World} {A : Around} {E : Value → Shared → Prop} {s : Shared}
end
section
variable {K : PySem.W.Frag} {X : Cx} {e : Expr} {m : XE} {pos p tpos : Pos}
end
/-! ### tuple(d.keys()) -/
section
variable {prog : Program} {w : World} {A : Around} {E : Value → Shared → Prop} {s : Shared} {r d : Addr} {n : Nat} {P : Nat → Value → Prop} {OK : Heap → Prop}
end
section
variable {X : Cx} {o : Expr} {mo : XE} {pos p q apos : Pos}
end
end Ew
end

section
set_option Elab.async false
set_option linter.all false
set_option maxRecDepth 100000
set_option maxHeartbeats 4000000
/-! EwN: l.extend(t), t a tuple. -/
namespace Ew
open PySem PySem.Spec PyProof.Rows L2 HT
variable [Tabs]
section
variable {X : Cx}
end
section
variable {X : Cx} {o e : Expr} {mo m : XE} {pos : Pos}
end
end Ew
end

section
set_option Elab.async false
set_option linter.all false
set_option maxRecDepth 100000
set_option maxHeartbeats 4000000
/-! EwO: tuple(reversed(t)), t a tuple. -/
namespace Ew
open PySem PySem.Spec PyProof.Rows L2 HT RT
variable [Tabs]
section
variable {prog : Program} {w : World} {A : Around} {E : Value → Shared → Prop} {s : Shared}
end
section
variable {X : Cx} {e : Expr} {m : XE} {p p2 pos pos2 : Pos}
end
section
variable {X : Cx} {m : XE}
end
end Ew
end

section
set_option Elab.async false
set_option linter.all false
set_option maxRecDepth 100000
set_option maxHeartbeats 4000000
/-! EwM: sum, sorted(set(t)). -/
namespace Ew
open PySem PySem.Spec PyProof.Rows L2
variable [Tabs]
section
variable {K : PySem.W.Frag} {X : Cx} {e a b c o i : Expr} {m ma mb mc mo mi : XE} {pos p q p2 : Pos} {es : List Expr} {mas : XA}
end
end Ew
end

section
set_option Elab.async false
set_option linter.all false
set_option maxRecDepth 100000
set_option maxHeartbeats 4000000
/-! EwP: sorted(e, key=lambda x: ..). -/
namespace Ew
open PySem PySem.Spec PyProof.Rows L2 NdefX LamX
variable [Tabs]
/-! ### the lambda's object -/
abbrev lmObj (q : Str) (params : Arguments) (body : Expr) (scope : Scope) (cl : List (Str × Addr)) (pm : Value) (c : Addr) (ct : Value) : Obj := PySem.W.kla_obj "<lambda>" q params body scope cl pm c ct
/-- its words, for the nested functions' context -/
abbrev lmF (q : Str) (params : Arguments) (scope : Scope) (cl : List (Str × Addr)) (c : Addr) : NF := ⟨"<lambda>", q, params, [], scope, cl, c⟩
section
variable {P : Program} {w : World} {K : PySem.W.Frag} {mg : Str → Option Value} {base : Heap} {N ps fr : List Str} {q : Str} {params : Arguments} {body : Expr} {scope : Scope} {cl : List (Str × Addr)} {pm ct : Value} {f c : Addr} {k : Nat}
end
/-! ### the lambda made -/
section
variable {X : Cx} {pins : List (Addr × Obj)} {σ : L2.St} {H : Hp} {s : Shared}
end
/-- what the lambda needs of its def: its scope, its place in the text -/
structure LamOk (X : Cx) (N fr : List Str) (p : Str) (js : List Nat) (params : Arguments) (body : Expr) (scope : Scope) : Prop where
  sc : NScope N [p] fr scope
  nn : N = p :: fr
  bind : ∀ (q : Str) (cl : List (Str × Addr)) (pm c ct : Value) (us : List Value), us.length = 1 → bindArgs (PySem.W.kla_fn "<lambda>" q params body scope cl pm c ct) ⟨us, []⟩ = pure ([p].zip us)
  dflt : defaultsOf params X.env = ([], [])
  free : ∀ y ∈ scope.names, y.2 = .free → X.env.scope.names.lookup y.1 = some .cell ∨ X.env.scope.names.lookup y.1 = some .free
  frs : ∀ y ∈ fr, (y, NameKind.free) ∈ scope.names
  at_ : js.map (fun j => X.N[j]?) = fr.map some
section
variable {X : Cx} {pins : List (Addr × Obj)} {σ : L2.St} {H : Hp} {s : Shared} {N fr : List Str} {p : Str} {js : List Nat} {params : Arguments} {body : Expr} {scope : Scope} {q : Str} {f c : Addr} {pm ct : Value} {k : Nat}
end
/-! ### the sort -/
section
variable {X : Cx} {pins : List (Addr × Obj)} {σ : L2.St} {H : Hp} {s : Shared} {N fr : List Str} {p : Str} {js : List Nat} {params : Arguments} {body : Expr} {scope : Scope} {q : Str} {f c : Addr} {pm ct : Value} {k : Nat}
end
section
variable {X : Cx} {N fr : List Str} {p : Str} {js : List Nat} {params : Arguments} {body e : Expr} {scope : Scope} {c P : Addr} {k n : Nat} {me mb : XE} {p1 pos lpos kpos : Pos}
end
end Ew
end

section
set_option Elab.async false
set_option linter.all false
set_option maxRecDepth 100000
set_option maxHeartbeats 4000000
/-! EwQ: defs that make lambdas; the law's end with their tables. -/
namespace Ew
open PySem PySem.Spec PyProof.Rows L2
variable [Tabs]
section
variable {P : Program} {w : World} {K : PySem.W.Frag} {mg : Str → Option Value} {base : Heap} {x : Str} {n k : Nat}
end
end Ew
end

section
set_option Elab.async false
set_option linter.all false
set_option maxRecDepth 100000
set_option maxHeartbeats 4000000
/-! EwR: min, max of lists of ints; sorted backwards. -/
namespace Ew
open PySem PySem.Spec PyProof.Rows L2 Srt SrtO SrtR
variable [Tabs]
section
variable {K : PySem.W.Frag} {X : Cx} {e : Expr} {es : List Expr} {m : XE} {mas : XA} {pos p kpos : Pos} {kn : Nat} {kp : Pos}
/-! ### sorted(xs, reverse=True) -/
end
end Ew
end

section
set_option Elab.async false
set_option linter.all false
set_option maxRecDepth 100000
set_option maxHeartbeats 4000000
/-! EwV: max(d.values()), ints. -/
namespace Ew
open PySem PySem.Spec PyProof.Rows L2
variable [Tabs]
section
variable {K : PySem.W.Frag} {X : Cx} {o : Expr} {mo : XE} {pos p apos mpos : Pos}
end
/-! ### x in a list of data of any depth -/
section
variable {K : PySem.W.Frag} {X : Cx} {a b : Expr} {ma mb : XE} {pos : Pos}
end
/-! ### d.clear() -/
section
variable {K : PySem.W.Frag} {X : Cx} {o : Expr} {mo : XE} {pos p apos : Pos}
end
/-! ### for x, y in zip(xs, ys), lists -/
section
variable {K : PySem.W.Frag} {X : Cx} {e e2 : Expr} {m m2 : XE} {pos p tpos : Pos}
end
/-! ### dict(d) -/
section
variable {X : Cx} {e : Expr} {es : List Expr} {mas : XA} {pos p : Pos}
end
end Ew
end

section
set_option Elab.async false
set_option linter.all false
set_option maxRecDepth 100000
set_option maxHeartbeats 4000000
/-! EwY: sorted of (int, row) and of rows; enumerate of a list. -/
namespace Ew
open PySem PySem.Spec PyProof.Rows L2 PySem.W
variable [Tabs]
/-! ### the order -/
/-! ### the items in threes -/
theorem threes {K : PySem.W.Frag} {r w : List Addr} {H : Hp} {f : Bool} : ∀ {xs : List MV} {us : List V} {ks : List (List Int)}, VRs K r w H xs us → keysZ f xs = some ks → ∃ T : List (List Int × MV × V), T.map (·.1) = ks ∧ T.map (·.2.1) = xs ∧ T.map (·.2.2) = us ∧ ∀ t ∈ T, VR K r w H t.2.1 t.2.2 ∧ keyZ t.2.1 = some (f, t.1)
  | [], us, ks, q, e => by
    simp only [VRs] at q
    simp only [keysZ, Option.some.injEq] at e
    subst q; subst e
    exact ⟨[], rfl, rfl, rfl, by simp⟩
  | x :: xs, us, ks, q, e => by
    simp only [VRs] at q
    obtain ⟨u, t, rfl, q1, q2⟩ := q
    simp only [keysZ] at e
    split at e
    · rename_i g k ks' e1 e2
      split at e
      · rename_i hg
        simp only [Option.some.injEq] at e
        subst e; subst hg
        obtain ⟨T, h1, h2, h3, h4⟩ := threes q2 e2
        refine ⟨(k, x, u) :: T, by simp [h1], by simp [h2], by simp [h3], fun t ht => ?_⟩
        rcases List.mem_cons.mp ht with rfl | ht
        · exact ⟨q1, e1⟩
        · exact h4 t ht
      · cases e
    · cases e
section
variable {K : PySem.W.Frag} {X : Cx} {e : Expr} {es : List Expr} {m : XE} {mas : XA} {pos p tpos : Pos}
/-! ### enumerate(xs) -/
end
end Ew
end

section
set_option Elab.async false
set_option linter.all false
set_option maxRecDepth 100000
set_option maxHeartbeats 4000000
/-! EwU: == of lists of dicts. -/
namespace PySem.SeqAt
open AutoSeq1 (wpAny_loadPart')
open MeetsSeq MeetsSeq2 MeetsSeq3 SeqRoads2
section
variable {P0 : Program} {w0 : World}
end
end PySem.SeqAt
namespace Ew
open PySem PySem.Spec PyProof.Rows L2
variable [Tabs]
variable {X : Cx}
theorem Room.u2 {k : Nat} (hr : Room k X.A) : X.A.in1.in1.units + 64 < cLine := by
  have h := hr.un
  have : X.A.in1.in1.units = X.A.in1.units + 1 := rfl
  have : X.A.in1.units = X.A.units + 1 := rfl
  omega
/-! ### str(i) -/
section
variable {K : PySem.W.Frag} {e a b c o i : Expr} {m ma mb mc mo mi : XE} {pos p : Pos} {es : List Expr} {mas : XA} {tg : Expr}
/-! ### reversed -/
end
/-! ### xs.clear() -/
section
variable {K : PySem.W.Frag} {X : Cx} {o : Expr} {mo : XE} {pos p apos : Pos}
end
/-! ### d.get(k, x), d.pop(k) -/
section
variable {K : PySem.W.Frag} {X : Cx} {o e f : Expr} {mo m1 m2 : XE} {pos p apos : Pos}
theorem VRk.drop {K : PySem.W.Frag} {r w : List Addr} {H : Hp} (k : MK) : ∀ {xs : List (MK × MV)} {us : List (Key × V)}, VRk K r w H xs us → VRk K r w H (dropM xs k) (dropK us k)
  | [], us, h => by simp only [VRk] at h; subst h; simp only [dropM, dropK, List.filter_nil, VRk]
  | (k', x) :: xs, us, h => by
    simp only [VRk] at h
    obtain ⟨u, t, rfl, q1, q⟩ := h
    have ih := VRk.drop k q
    unfold dropM dropK at ih ⊢
    by_cases e : k' = k
    · subst e
      rw [List.filter_cons_of_neg (by simp), List.filter_cons_of_neg (by simp)]
      exact ih
    · rw [List.filter_cons_of_pos (by simpa using e), List.filter_cons_of_pos (by simpa using e)]
      simp only [VRk]
      exact ⟨u, _, rfl, q1, ih⟩
end
end Ew
end

section
set_option Elab.async false
set_option linter.all false
set_option maxRecDepth 100000
set_option maxHeartbeats 4000000
/-! EwKE: walks over the keys of whatever names a dict in a cell. -/
namespace Ew
open PySem PySem.Spec PyProof.Rows L2
section
variable [Tabs] {X : Cx} {pos : Pos}
variable {sts : List Stmt} {x : XS} {g : XG} {tg : Expr}
end
section
variable [Tabs] {X : Cx} {pos : Pos} {e o : Expr} {m mo : XE}
end
section
variable [Tabs] {K : PySem.W.Frag} {X : Cx} {pos p fp : Pos} {e : Expr} {m : XE} {sts : List Stmt} {x : XS} {g : XG} {tg : Expr}
end
end Ew
end

section
set_option Elab.async false
set_option linter.all false
set_option maxRecDepth 100000
set_option maxHeartbeats 4000000
/-! EwPR: three names stored at once. -/
namespace Ew
open PySem PySem.Spec PyProof.Rows L2
variable [Tabs]
section
variable {K : PySem.W.Frag} {X : Cx} {a b c : Expr} {ma mb mc : XE} {pos : Pos}
end
end Ew
end

section
set_option linter.all false
set_option maxRecDepth 100000
/-! EwT: plain lemmas of the small machine: loops, numbers, data. -/
namespace Ew
open PySem (Str)
/-! ### composing -/
theorem seq_nx {a b : XS} {s s1 : SM} {h h1 : MH} (e : a s h = some (.nx, s1, h1)) : sSeq a b s h = b s1 h1 := by simp only [sSeq, e]
theorem seq_rt {a b : XS} {s s1 : SM} {h h1 : MH} {v : MV} (e : a s h = some (.rt v, s1, h1)) : sSeq a b s h = some (.rt v, s1, h1) := by simp only [sSeq, e]
theorem for_at {it : XI} {g : XG} {b : XS} {s : SM} {h h1 : MH} {xs : List MV} (e : it s h = some (.vals xs, h1)) : sFor it g b s h = forGo g b xs s h1 := by simp only [sFor, e]
theorem run_rt {n : Nat} {b : XS} {vs : List MV} {h h1 : MH} {s : SM} {v : MV} (e : b (sBegin n vs) h = some (.rt v, s, h1)) : runDef n b vs h = some (v, h1) := by simp only [runDef, e]
theorem run_nx {n : Nat} {b : XS} {vs : List MV} {h h1 : MH} {s : SM} (e : b (sBegin n vs) h = some (.nx, s, h1)) : runDef n b vs h = some (.non, h1) := by simp only [runDef, e]
theorem lc_at {it : XI} {g : XG} {c : XT} {e : XE} {own : List Nat} {s : SM} {h h1 h2 : MH} {xs ys : List MV} (e1 : it s h = some (.vals xs, h1)) (e2 : lcGo g c e [] xs (wipeM s own) h1 = some (ys, h2)) : xLc it g c e own s h = some (.lst ys, h2) := by simp only [xLc, e1, e2]
theorem ret_at {e : XE} {s : SM} {h h1 : MH} {v : MV} (e1 : e s h = some (v, h1)) : sRet e s h = some (.rt v, s, h1) := by simp only [sRet, e1]
theorem set_at {i : Nat} {e : XE} {s : SM} {h h1 : MH} {v : MV} (e1 : e s h = some (v, h1)) : sAsg e (gNm i) s h = some (.nx, s.set i (some v), h1) := by simp only [sAsg, gNm, e1]
theorem rng1_at {e : XE} {s : SM} {h h1 : MH} {j : Int} (e1 : e s h = some (.int j, h1)) (hj : -4611686018427387904 ≤ j ∧ j < 4611686018427387904) : iRange1 e s h = some (.vals (rngM 0 j.toNat), h1) := by
  have q : (-(2 ^ 62) ≤ j ∧ j < 2 ^ 62) := by omega
  simp only [iRange1, e1]
  rw [if_pos q]
theorem forK_at {n : Nat} {g : XG} {b : XS} {s : SM} {h : MH} {kvs : List (MK × MV)} (e1 : s[n]? = some (some (.dK kvs))) : sForK n g b s h = forGo g b (kvs.map fun kv => keyV kv.1) s h := by simp only [sForK, e1]
theorem un_at {f : MH → MV → Option MV} {a : XE} {s : SM} {h h1 : MH} {x v : MV} (e1 : a s h = some (x, h1)) (e2 : f h1 x = some v) : xUn f a s h = some (v, h1) := by simp only [xUn, e1, e2]
theorem op_at {f : MH → MV → MV → Option MV} {a b : XE} {s : SM} {h h1 h2 : MH} {x y v : MV} (e1 : a s h = some (x, h1)) (e2 : b s h1 = some (y, h2)) (e3 : f h2 x y = some v) : xOp f a b s h = some (v, h2) := by simp only [xOp, e1, e2, e3]
theorem args1_at {f : MH → List MV → Option MV} {a : XE} {s : SM} {h h1 : MH} {x v : MV} (e1 : a s h = some (x, h1)) (e2 : f h1 [x] = some v) : xArgs f (xCons a xNil) s h = some (v, h1) := by simp only [xArgs, xCons, xNil, e1, e2]
theorem if_t {c : XT} {a b : XS} {s : SM} {h h1 : MH} (e : c s h = some (true, h1)) : sIf c a b s h = a s h1 := by simp only [sIf, e]
theorem if_f {c : XT} {a b : XS} {s : SM} {h h1 : MH} (e : c s h = some (false, h1)) : sIf c a b s h = b s h1 := by simp only [sIf, e]
theorem if_nx {x : XE} {b : XS} {s : SM} {h h1 : MH} (e : x s h = some (.bl false, h1)) : sIf (xB x) b sNext s h = some (.nx, s, h1) := by simp only [sIf, xB, e, sNext]
theorem xB_at {x : XE} {k : Bool} {s : SM} {h h1 : MH} (e : x s h = some (.bl k, h1)) : xB x s h = some (k, h1) := by simp only [xB, e]
theorem call_1 {g : Fn} {i : Nat} {x : MV} {s : SM} {h : MH} (e1 : s[i]? = some (some x)) : xCall g (xCons (xVar i) xNil) s h = g [x] h := by simp only [xCall, xCons, xNil, xVar, e1]
theorem call_2 {g : Fn} {i j : Nat} {x y : MV} {s : SM} {h : MH} (e1 : s[i]? = some (some x)) (e2 : s[j]? = some (some y)) : xCall g (xCons (xVar i) (xCons (xVar j) xNil)) s h = g [x, y] h := by simp only [xCall, xCons, xNil, xVar, e1, e2]
theorem call_3 {g : Fn} {i j k : Nat} {x y z : MV} {s : SM} {h : MH} (e1 : s[i]? = some (some x)) (e2 : s[j]? = some (some y)) (e3 : s[k]? = some (some z)) : xCall g (xCons (xVar i) (xCons (xVar j) (xCons (xVar k) xNil))) s h = g [x, y, z] h := by simp only [xCall, xCons, xNil, xVar, e1, e2, e3]
/-! ### loops -/
/-- a walk that ends by itself -/
theorem forGo_run {g : XG} {b : XS} (I : Nat → SM → MH → Prop) (xs : List MV) (k : Nat) (s : SM) (h : MH) (h0 : I k s h)
    (step : ∀ i x s h, xs[i]? = some x → I (k + i) s h → ∃ s1 h1 f s2 h2, g x s h = some (s1, h1) ∧ b s1 h1 = some (f, s2, h2) ∧ (f = .nx ∨ f = .ct) ∧ I (k + i + 1) s2 h2) :
    ∃ s' h', forGo g b xs s h = some (.nx, s', h') ∧ I (k + xs.length) s' h' := by
  induction xs generalizing k s h with
  | nil => exact ⟨s, h, rfl, h0⟩
  | cons x xs ih =>
    obtain ⟨s1, h1, f, s2, h2, e1, e2, hf, i2⟩ := step 0 x s h rfl h0
    obtain ⟨s', h', e3, i3⟩ := ih (k + 1) s2 h2 i2 (fun i y s h ey hi => by
      have := step (i + 1) y s h ey (by rw [show k + (i + 1) = k + 1 + i by omega]; exact hi)
      rw [show k + (i + 1) + 1 = k + 1 + i + 1 by omega] at this
      exact this)
    refine ⟨s', h', ?_, by rw [List.length_cons, show k + (xs.length + 1) = k + 1 + xs.length by omega]; exact i3⟩
    rcases hf with rfl | rfl <;> simp only [forGo, e1, e2, e3]
/-- a walk that may end early: at each turn it goes on with I or ends with E -/
theorem forGo_ret {g : XG} {b : XS} (I : Nat → SM → MH → Prop) (E : Fl → SM → MH → Prop) (xs : List MV) (k : Nat) (s : SM) (h : MH) (h0 : I k s h) (fin : ∀ s h, I (k + xs.length) s h → E .nx s h)
    (step : ∀ i x s h, xs[i]? = some x → I (k + i) s h → ∃ s1 h1 f s2 h2, g x s h = some (s1, h1) ∧ b s1 h1 = some (f, s2, h2) ∧ (((f = .nx ∨ f = .ct) ∧ I (k + i + 1) s2 h2) ∨ (f = .bk ∧ E .nx s2 h2) ∨ ∃ v, f = .rt v ∧ E (.rt v) s2 h2)) :
    ∃ f s' h', forGo g b xs s h = some (f, s', h') ∧ E f s' h' := by
  induction xs generalizing k s h with
  | nil => exact ⟨.nx, s, h, rfl, fin s h h0⟩
  | cons x xs ih =>
    obtain ⟨s1, h1, f, s2, h2, e1, e2, c⟩ := step 0 x s h rfl h0
    rcases c with ⟨hf, i2⟩ | ⟨rfl, q⟩ | ⟨v, rfl, q⟩
    · obtain ⟨f3, s', h', e3, i3⟩ := ih (k + 1) s2 h2 i2 (fun s h hi => fin s h (by rw [List.length_cons, show k + (xs.length + 1) = k + 1 + xs.length by omega]; exact hi)) (fun i y s h ey hi => by
        have := step (i + 1) y s h ey (by rw [show k + (i + 1) = k + 1 + i by omega]; exact hi)
        rw [show k + (i + 1) + 1 = k + 1 + i + 1 by omega] at this
        exact this)
      refine ⟨f3, s', h', ?_, i3⟩
      rcases hf with rfl | rfl <;> simp only [forGo, e1, e2, e3]
    · exact ⟨.nx, s2, h2, by simp only [forGo, e1, e2], q⟩
    · exact ⟨.rt v, s2, h2, by simp only [forGo, e1, e2], q⟩
theorem whileGo_mono {c : XT} {b : XS} : ∀ (n : Nat) (s : SM) (h : MH) (r : Fl × SM × MH), whileGo c b n s h = some r → whileGo c b (n + 1) s h = some r
  | 0, s, h, r, e => by simp [whileGo] at e
  | n + 1, s, h, r, e => by
    rw [whileGo] at e ⊢
    cases e1 : c s h with
    | none => simp only [e1] at e; cases e
    | some p =>
      obtain ⟨k, h1⟩ := p
      cases k with
      | false => simp only [e1] at e ⊢; exact e
      | true =>
        simp only [e1] at e ⊢
        cases e2 : b s h1 with
        | none => simp only [e2] at e; cases e
        | some q =>
          obtain ⟨f, s2, h2⟩ := q
          cases f with
          | nx => simp only [e2] at e ⊢; exact whileGo_mono n s2 h2 r e
          | ct => simp only [e2] at e ⊢; exact whileGo_mono n s2 h2 r e
          | bk => simp only [e2] at e ⊢; exact e
          | rt v => simp only [e2] at e ⊢; exact e
/-- a loop that ends by its test -/
theorem sWhile_run {c : XT} {b : XS} (I E : SM → MH → Prop) (mu : SM → MH → Nat)
    (st : ∀ s h, I s h → (∃ h1, c s h = some (false, h1) ∧ E s h1) ∨ ∃ h1 f s2 h2, c s h = some (true, h1) ∧ b s h1 = some (f, s2, h2) ∧ (f = .nx ∨ f = .ct) ∧ I s2 h2 ∧ mu s2 h2 < mu s h)
    (s : SM) (h : MH) (h0 : I s h) : ∃ s' h', sWhile c b s h = some (.nx, s', h') ∧ E s' h' := by
  have key : ∀ (k : Nat) (s : SM) (h : MH), mu s h < k → I s h → ∃ n s' h', whileGo c b n s h = some (.nx, s', h') ∧ E s' h' := fun k => by
    induction k with
    | zero => exact fun s h hk => absurd hk (Nat.not_lt_zero _)
    | succ k ih =>
      intro s h hk hi
      rcases st s h hi with ⟨h1, e1, q⟩ | ⟨h1, f, s2, h2, e1, e2, hf, i2, m2⟩
      · exact ⟨1, s, h1, by simp only [whileGo, e1], q⟩
      · obtain ⟨n, s', h', e3, q⟩ := ih s2 h2 (by omega) i2
        refine ⟨n + 1, s', h', ?_, q⟩
        rcases hf with rfl | rfl <;> simp only [whileGo, e1, e2, e3]
  obtain ⟨n, s', h', e, q⟩ := key (mu s h + 1) s h (Nat.lt_succ_self _) h0
  exact ⟨s', h', fuel_of (fun n r e => whileGo_mono n s h r e) e, q⟩
/-! ### numbers -/
theorem log2_lt {i : Int} (h0 : -1606938044258990275541962092341162602522202993782792835301376 < i) (h1 : i < 1606938044258990275541962092341162602522202993782792835301376) : i.natAbs.log2 < 200 := by
  by_cases q : i.natAbs = 0
  · rw [q]; decide
  · exact (Nat.log2_lt q).mpr (by have : (2 : Nat) ^ 200 = 1606938044258990275541962092341162602522202993782792835301376 := by decide
                                  omega)
theorem mul_ok {h : MH} {i j : Int} (a0 : -1606938044258990275541962092341162602522202993782792835301376 < i) (a1 : i < 1606938044258990275541962092341162602522202993782792835301376) (b0 : -1606938044258990275541962092341162602522202993782792835301376 < j) (b1 : j < 1606938044258990275541962092341162602522202993782792835301376) : opMul h (.int i) (.int j) = some (.int (i * j)) := by
  have := log2_lt a0 a1
  have := log2_lt b0 b1
  simp only [opMul]
  rw [if_pos (by omega)]
theorem div_ok {h : MH} {i j : Int} (b0 : 0 < j) (b1 : j < 1606938044258990275541962092341162602522202993782792835301376) : opDiv h (.int i) (.int j) = some (.int (i / j)) := by
  have := log2_lt (i := j) (by omega) b1
  simp only [opDiv]
  rw [if_pos ⟨b0, by omega⟩]
theorem mod_ok {h : MH} {i j : Int} (b0 : 0 < j) : opMod h (.int i) (.int j) = some (.int (i % j)) := by
  simp only [opMod]
  rw [if_pos b0]
/-! ### data -/
theorem isDs_ints (n : Nat) : ∀ xs : List Int, isDs n (xs.map .int) = true
  | [] => by simp [isDs]
  | x :: xs => by simp [isDs, isD, isDs_ints n xs]
theorem isD_ints (n : Nat) (xs : List Int) : isD (n + 1) (.lst (xs.map .int)) = true := by simp only [isD]; exact isDs_ints n xs
theorem eqDs_ints : ∀ xs ys : List Int, eqDs (xs.map .int) (ys.map .int) = (xs == ys)
  | [], [] => by simp [eqDs]
  | [], _ :: _ => by simp [eqDs]
  | _ :: _, [] => by simp [eqDs]
  | x :: xs, y :: ys => by simp [eqDs, eqD, eqDs_ints xs ys]
theorem eq_cell {h : MH} {d : Nat} {xs : List Int} (ys : List Int) (e : h[d]? = some (.lst (xs.map .int))) : opEq h (.ref d) (.lst (ys.map .int)) = some (.bl (xs == ys)) := by
  simp only [opEq, dictK, e, opEq0, eqM, rdM, isD_ints 59, eqD, eqDs_ints, Bool.and_self, if_true, Option.map_some]
theorem get_last {h : MH} {c : MC} : (h ++ [c])[h.length]? = some c := by simp
theorem set_last {h : MH} {c d : MC} : (h ++ [c]).set h.length d = h ++ [d] := by simp
theorem set_same {h : MH} {n : Nat} {c : MC} (e : h[n]? = some c) : h.set n c = h := by
  obtain ⟨hl, e⟩ := List.getElem?_eq_some_iff.mp e
  subst e
  exact List.set_getElem_self hl
theorem rng_at {lo : Int} {n i : Nat} {x : MV} (e : (rngM lo n)[i]? = some x) : x = .int (lo + (i : Nat)) ∧ i < n := by
  unfold rngM at e
  rw [List.getElem?_map] at e
  by_cases q : i < n
  · rw [List.getElem?_range q] at e
    cases e
    exact ⟨rfl, q⟩
  · rw [List.getElem?_eq_none (by simpa using q)] at e
    cases e
theorem rng_len {lo : Int} {n : Nat} : (rngM lo n).length = n := by simp [rngM]
theorem map_at {α β : Type} {f : α → β} {xs : List α} {i : Nat} : (xs.map f)[i]? = xs[i]?.map f := List.getElem?_map
theorem ix_nat {n i : Nat} (h : i < n) : ixM n (i : Int) = some i := by
  unfold ixM
  rw [if_pos (by omega), if_pos (by omega)]
  rfl
theorem at_nat {xs : List MV} {i : Nat} {v : MV} (e : xs[i]? = some v) : atM xs (i : Int) = some v := by
  unfold atM
  rw [ix_nat (List.getElem?_eq_some_iff.mp e).1]
  exact e
theorem st_NoneType_bool : subTy "NoneType" "bool" = false := rfl
theorem st_NoneType_int : subTy "NoneType" "int" = false := rfl
theorem st_NoneType_str : subTy "NoneType" "str" = false := rfl
theorem st_NoneType_tuple : subTy "NoneType" "tuple" = false := rfl
theorem st_NoneType_list : subTy "NoneType" "list" = false := rfl
theorem st_NoneType_dict : subTy "NoneType" "dict" = false := rfl
theorem st_bool_bool : subTy "bool" "bool" = true := rfl
theorem st_bool_int : subTy "bool" "int" = true := rfl
theorem st_bool_str : subTy "bool" "str" = false := rfl
theorem st_bool_tuple : subTy "bool" "tuple" = false := rfl
theorem st_bool_list : subTy "bool" "list" = false := rfl
theorem st_bool_dict : subTy "bool" "dict" = false := rfl
theorem st_int_bool : subTy "int" "bool" = false := rfl
theorem st_int_int : subTy "int" "int" = true := rfl
theorem st_int_str : subTy "int" "str" = false := rfl
theorem st_int_tuple : subTy "int" "tuple" = false := rfl
theorem st_int_list : subTy "int" "list" = false := rfl
theorem st_int_dict : subTy "int" "dict" = false := rfl
theorem st_str_bool : subTy "str" "bool" = false := rfl
theorem st_str_int : subTy "str" "int" = false := rfl
theorem st_str_str : subTy "str" "str" = true := rfl
theorem st_str_tuple : subTy "str" "tuple" = false := rfl
theorem st_str_list : subTy "str" "list" = false := rfl
theorem st_str_dict : subTy "str" "dict" = false := rfl
theorem st_tuple_bool : subTy "tuple" "bool" = false := rfl
theorem st_tuple_int : subTy "tuple" "int" = false := rfl
theorem st_tuple_str : subTy "tuple" "str" = false := rfl
theorem st_tuple_tuple : subTy "tuple" "tuple" = true := rfl
theorem st_tuple_list : subTy "tuple" "list" = false := rfl
theorem st_tuple_dict : subTy "tuple" "dict" = false := rfl
theorem st_list_bool : subTy "list" "bool" = false := rfl
theorem st_list_int : subTy "list" "int" = false := rfl
theorem st_list_str : subTy "list" "str" = false := rfl
theorem st_list_tuple : subTy "list" "tuple" = false := rfl
theorem st_list_list : subTy "list" "list" = true := rfl
theorem st_list_dict : subTy "list" "dict" = false := rfl
theorem st_dict_bool : subTy "dict" "bool" = false := rfl
theorem st_dict_int : subTy "dict" "int" = false := rfl
theorem st_dict_str : subTy "dict" "str" = false := rfl
theorem st_dict_tuple : subTy "dict" "tuple" = false := rfl
theorem st_dict_list : subTy "dict" "list" = false := rfl
theorem st_dict_dict : subTy "dict" "dict" = true := rfl
theorem at_0 {x : MV} {xs : List MV} : atM (x :: xs) 0 = some x := by
  have := at_nat (xs := x :: xs) (i := 0) (v := x) rfl
  exact this
theorem at_1 {x y : MV} {xs : List MV} : atM (x :: y :: xs) 1 = some y := at_nat (xs := x :: y :: xs) (i := 1) rfl
theorem at_2 {x y z : MV} {xs : List MV} : atM (x :: y :: z :: xs) 2 = some z := at_nat (xs := x :: y :: z :: xs) (i := 2) rfl
theorem eq_ii (h : MH) (i j : Int) : opEq h (.int i) (.int j) = some (.bl (i == j)) := rfl
theorem ne_ii (h : MH) (i j : Int) : opNe h (.int i) (.int j) = some (.bl (!(i == j))) := rfl
/-- a comprehension over what some things stand for, with a test -/
theorem lcGo_gen {α : Type} {g : XG} {c : XT} {e : XE} {s : SM} {h : MH} (t : α → MV) (P : α → Bool) (f : α → MV) : ∀ (xs : List α) (acc : List MV), acc.length + xs.length ≤ szLine →
    (∀ x ∈ xs, ∃ s1, g (t x) s h = some (s1, h) ∧ c s1 h = some (P x, h) ∧ (P x = true → e s1 h = some (f x, h))) → lcGo g c e acc (xs.map t) s h = some (acc ++ (xs.filter P).map f, h)
  | [], acc, _, _ => by simp [lcGo]
  | x :: xs, acc, hz, step => by
    obtain ⟨s1, e1, e2, e3⟩ := step x List.mem_cons_self
    simp only [List.length_cons] at hz
    rw [List.map_cons, lcGo]
    simp only [e1, e2]
    cases q : P x with
    | false =>
      simp only [q]
      rw [lcGo_gen t P f xs acc (by omega) (fun y hy => step y (List.mem_cons_of_mem _ hy)), List.filter_cons_of_neg (by rw [q]; decide)]
    | true =>
      have hl : acc.length < szLine := by omega
      simp only [q, e3 q, hl, if_true]
      rw [lcGo_gen t P f xs (acc ++ [f x]) (by simp only [List.length_append, List.length_cons, List.length_nil]; omega) (fun y hy => step y (List.mem_cons_of_mem _ hy)), List.filter_cons_of_pos q]
      simp
theorem lcGo_all {α : Type} {g : XG} {c : XT} {e : XE} {s : SM} {h : MH} (t f : α → MV) (xs : List α) (acc : List MV) (hz : acc.length + xs.length ≤ szLine)
    (step : ∀ x ∈ xs, ∃ s1, g (t x) s h = some (s1, h) ∧ c s1 h = some (true, h) ∧ e s1 h = some (f x, h)) : lcGo g c e acc (xs.map t) s h = some (acc ++ xs.map f, h) := by
  rw [lcGo_gen t (fun _ => true) f xs acc hz (fun x hx => by obtain ⟨s1, a, b, c⟩ := step x hx; exact ⟨s1, a, b, fun _ => c⟩)]
  rw [List.filter_eq_self.mpr (fun _ _ => rfl)]
theorem cut_to {xs : List MV} {i : Int} (h : 0 ≤ i) : cutM xs none (some i) = xs.take i.toNat := by
  have q : ¬ i < 0 := by omega
  simp only [cutM, sIxM, if_neg q, List.drop_zero, Nat.sub_zero]
  rw [← List.take_eq_take_min]
theorem cut_from {xs : List MV} {i : Int} (h : 0 ≤ i) : cutM xs (some i) none = xs.drop i.toNat := by
  have q : ¬ i < 0 := by omega
  simp only [cutM, sIxM, if_neg q]
  by_cases c : i.toNat ≤ xs.length
  · rw [Nat.min_eq_left c, List.take_of_length_le (by rw [List.length_drop]; omega)]
  · rw [Nat.min_eq_right (by omega), List.drop_eq_nil_of_le (Nat.le_refl _), List.drop_eq_nil_of_le (by omega)]; simp
theorem flat_ints : ∀ r : List Int, (r.map MV.int).all flatM = true
  | [] => rfl
  | _ :: r => by rw [List.map_cons, List.all_cons, flat_ints r]; rfl
theorem find_ints : ∀ {r : List Int} {a : Int}, a ∈ r → (r.map MV.int).findIdx? (fun z => feqM z (.int a)) = some (r.idxOf a)
  | x :: r, a, h => by
    rw [List.map_cons, List.findIdx?_cons, List.idxOf_cons]
    by_cases q : x = a
    · have e : feqM (.int x) (.int a) = true := by simp [feqM, q]
      have e2 : (x == a) = true := by simpa using q
      rw [e, e2]; rfl
    · have e : feqM (.int x) (.int a) = false := by simp [feqM, q]
      have e2 : (x == a) = false := by simpa using q
      rw [e, e2, find_ints ((List.mem_cons.mp h).resolve_left fun z => q z.symm)]; rfl
theorem index_at {h : MH} {r : List Int} {a : Int} (ha : a ∈ r) : opIndexL h (.lst (r.map .int)) (.int a) = some (.int (r.idxOf a : Nat)) := by
  simp only [opIndexL, opIndexL0, lstV]
  rw [flat_ints, find_ints ha]
  rfl
theorem in_ints (r : List Int) (a : Int) : inSeq (.int a) (r.map .int) = some (decide (a ∈ r)) := by
  unfold inSeq
  rw [flat_ints]
  simp only [flatM, Bool.and_self, if_true]
  congr 1
  induction r with
  | nil => simp
  | cons x r ih =>
    rw [List.map_cons, List.any_cons, ih]
    simp only [feqM, List.mem_cons]
    by_cases q : x = a
    · simp [q]
    · have : ¬ a = x := fun z => q z.symm
      simp [q, this]
theorem in_lst (h : MH) (r : List Int) (a : Int) : opIn h (.int a) (.lst (r.map .int)) = some (.bl (decide (a ∈ r))) := by
  simp only [opIn, seqOf, listOf, in_ints]; rfl
theorem in_tup (h : MH) (r : List Int) (a : Int) : opIn h (.int a) (.tup (r.map .int)) = some (.bl (decide (a ∈ r))) := by
  simp only [opIn, seqOf, in_ints]; rfl
theorem notin_lst (h : MH) (r : List Int) (a : Int) : opNotIn h (.int a) (.lst (r.map .int)) = some (.bl (!decide (a ∈ r))) := by
  simp only [opNotIn, seqOf, listOf, in_ints]; rfl
theorem notin_tup (h : MH) (r : List Int) (a : Int) : opNotIn h (.int a) (.tup (r.map .int)) = some (.bl (!decide (a ∈ r))) := by
  simp only [opNotIn, seqOf, in_ints]; rfl
theorem ix_l (h : MH) (xs : List MV) (i : Int) : opIx h (.lst xs) (.int i) = atM xs i := by simp only [opIx, seqOf, listOf]
theorem ix_t (h : MH) (xs : List MV) (i : Int) : opIx h (.tup xs) (.int i) = atM xs i := by simp only [opIx, seqOf]
theorem pick {α : Type} {f : α → MV} {xs : List α} {n : Int} (hn : 0 ≤ n) (hx : xs ≠ []) : ∃ x ∈ xs, atM (xs.map f) (n % ((xs.length : Nat) : Int)) = some (f x) := by
  have hl : 0 < xs.length := List.length_pos_iff.mpr hx
  have h0 := Int.emod_nonneg n (show ((xs.length : Nat) : Int) ≠ 0 by omega)
  have h1 := Int.emod_lt_of_pos n (show (0 : Int) < ((xs.length : Nat) : Int) by omega)
  obtain ⟨k, hk⟩ := Int.eq_ofNat_of_zero_le h0
  rw [hk] at h1 ⊢
  have hk2 : k < xs.length := by omega
  exact ⟨xs[k], List.getElem_mem hk2, at_nat (by rw [List.getElem?_map, List.getElem?_eq_getElem hk2]; rfl)⟩
theorem get_app {h t : MH} {d : Nat} {c : MC} (e : h[d]? = some c) : (h ++ t)[d]? = some c := by
  rw [List.getElem?_append_left (List.getElem?_eq_some_iff.mp e).1]; exact e
theorem set_app {h t : MH} {d : Nat} {c c' : MC} (hd : d < h.length) : ((h.set d c) ++ t).set d c' = (h.set d c') ++ t := by
  rw [List.set_append_left _ _ (by simpa using hd), List.set_set]
theorem get_set {h : MH} {d : Nat} {c : MC} (hd : d < h.length) : (h.set d c)[d]? = some c := List.getElem?_set_self hd
theorem get_end {h : MH} {n : Nat} {c : MC} (hn : h.length = n) : (h ++ [c])[n]? = some c := by subst hn; exact get_last
theorem set_end {h : MH} {n : Nat} {c c' : MC} (hn : h.length = n) : (h ++ [c]).set n c' = h ++ [c'] := by subst hn; exact set_last
theorem append_at {o e : XE} {s : SM} {h h1 h2 : MH} {n : Nat} {xs ys : List MV} {v : MV} (e1 : o s h = some (.ref n, h1)) (e2 : h1[n]? = some (.lst ys)) (e3 : e s h1 = some (v, h2)) (e4 : h2[n]? = some (.lst xs)) (hz : xs.length < szLine) :
    xAppend o e s h = some (.non, h2.set n (.lst (xs ++ [v]))) := by
  simp only [xAppend, e1, isLstC, e2, if_true, e3, e4, hz]
theorem get_e0 {A t : MH} {n : Nat} {c : MC} (hn : A.length = n) : (A ++ (c :: t))[n]? = some c := by subst hn; simp
theorem get_e1 {A t : MH} {n : Nat} {c c1 : MC} (hn : A.length = n) : (A ++ (c :: c1 :: t))[n + 1]? = some c1 := by subst hn; simp
theorem set_e0 {A t : MH} {n : Nat} {c c' : MC} (hn : A.length = n) : (A ++ (c :: t)).set n c' = A ++ (c' :: t) := by subst hn; simp
theorem set_e1 {A t : MH} {n : Nat} {c c1 c' : MC} (hn : A.length = n) : (A ++ (c :: c1 :: t)).set (n + 1) c' = A ++ (c :: c' :: t) := by
  subst hn
  rw [List.set_append_right _ _ (by omega)]
  simp
theorem expr_at {e : XE} {s : SM} {h h1 : MH} {v : MV} (e1 : e s h = some (v, h1)) : sExpr e s h = some (.nx, s, h1) := by simp only [sExpr, e1]
/-! ### what is told to callers -/
theorem cel_app {h t : MH} {x : Nat} : CelOK h (h ++ t) h x := ⟨rfl, by simp, fun i c e => .inl ⟨by rw [List.getElem?_append_left (List.getElem?_eq_some_iff.mp e).1]; exact e, e⟩⟩
theorem FrzOK.same {g : Fn} {args : List MV} {h : MH} {v : MV} (e : ∃ v2 t, g args h = some (v2, h ++ t) ∧ Frz (h ++ t) h.length (h ++ t).length v2 v) : FrzOK g args h v h := by
  obtain ⟨v2, t, e, f⟩ := e
  exact ⟨v2, _, e, cel_app, f⟩
mutual
theorem frz_plain {h : MH} {n x : Nat} : ∀ v : MV, plainV v = true → Frz h n x v v
  | .non, _ => by simp [Frz]
  | .bl _, _ => by simp [Frz]
  | .int _, _ => by simp [Frz]
  | .str _, _ => by simp [Frz]
  | .scr _, _ => by simp [Frz]
  | .ref _, e => by simp [plainV] at e
  | .tup xs, e => by simp only [plainV] at e; simp only [Frz]; exact ⟨xs, rfl, frz_plainL xs e⟩
  | .row xs, e => by simp only [plainV] at e; simp only [Frz]; exact ⟨xs, rfl, frz_plainL xs e⟩
  | .lst xs, e => by simp only [plainV] at e; simp only [Frz]; exact .inl ⟨xs, rfl, frz_plainL xs e⟩
  | .dK xs, e => by simp only [plainV] at e; simp only [Frz]; exact .inl ⟨xs, rfl, frz_plainK xs e⟩
  | .dT xs, e => by simp only [plainV] at e; simp only [Frz]; exact .inl ⟨xs, rfl, frz_plainT xs e⟩
theorem frz_plainL {h : MH} {n x : Nat} : ∀ v : List MV, plainL v = true → Frzs h n x v v
  | [], _ => by simp [Frzs]
  | v :: vs, e => by simp only [plainL, Bool.and_eq_true] at e; simp only [Frzs]; exact ⟨v, vs, rfl, frz_plain v e.1, frz_plainL vs e.2⟩
theorem frz_plainK {h : MH} {n x : Nat} : ∀ v : List (MK × MV), plainK v = true → Frzk h n x v v
  | [], _ => by simp [Frzk]
  | (k, v) :: vs, e => by simp only [plainK, Bool.and_eq_true] at e; simp only [Frzk]; exact ⟨v, vs, rfl, frz_plain v e.1, frz_plainK vs e.2⟩
theorem frz_plainT {h : MH} {n x : Nat} : ∀ v : List (List MK × MV), plainT v = true → Frzt h n x v v
  | [], _ => by simp [Frzt]
  | (k, v) :: vs, e => by simp only [plainT, Bool.and_eq_true] at e; simp only [Frzt]; exact ⟨v, vs, rfl, frz_plain v e.1, frz_plainT vs e.2⟩
end
theorem cfrz_plain {h : MH} {n x : Nat} {c : MC} (e : plainC c = true) : CFrz h n x c c := by
  cases c <;> first | (cases e; done) | skip
  all_goals simp only [plainC] at e
  all_goals simp only [CFrz]
  · exact frz_plainL _ e
  · exact frz_plainK _ e
  · exact frz_plainT _ e
  · exact frz_plainK _ e
  · exact frz_plainT _ e
theorem Keeps.cel {h h2 : MH} {x : Nat} (k : Keeps h h2) : CelOK h h2 (h2.take h.length) x := by
  refine ⟨by rw [List.length_take]; have := k.1; omega, k.1, fun i c e => ?_⟩
  have hi : i < h.length := by
    have := (List.getElem?_eq_some_iff.mp e).1
    rw [List.length_take] at this; omega
  rw [List.getElem?_take_of_lt hi] at e
  rcases k.2 i c hi e with q | q
  · exact .inl ⟨e, q⟩
  · exact .inr ⟨c, e, cfrz_plain q⟩
theorem toldV_ok (g : Fn) : ∀ args h v h', toldV g args h = some (v, h') → FrzOK g args h v h' := by
  intro args h v h' e
  unfold toldV at e
  split at e
  · rename_i v2 h2 e2
    split at e
    · rename_i q
      simp only [Option.some.injEq, Prod.mk.injEq] at e
      obtain ⟨rfl, rfl⟩ := e
      exact ⟨v2, h2, e2, q.2.cel, frz_plain _ q.1⟩
    · cases e
  · cases e
theorem toldF_ok (g : Fn) : ∀ args h v h', toldF g args h = some (v, h') → FrzF g args h v h' := by
  intro args h v h' e
  unfold toldF at e
  split at e
  · rename_i m h2 e2
    split at e
    · rename_i q
      split at e
      · rename_i xs e3
        split at e
        · rename_i p
          simp only [Option.some.injEq, Prod.mk.injEq] at e
          obtain ⟨rfl, rfl⟩ := e
          exact ⟨m, _, h2, e2, q.1, e3, q.2.cel, frz_plainL _ p⟩
        · cases e
      · rename_i xs e3
        split at e
        · rename_i p
          simp only [Option.some.injEq, Prod.mk.injEq] at e
          obtain ⟨rfl, rfl⟩ := e
          exact ⟨m, _, h2, e2, q.1, e3, q.2.cel, frz_plainK _ p⟩
        · cases e
      · rename_i xs e3
        split at e
        · rename_i p
          simp only [Option.some.injEq, Prod.mk.injEq] at e
          obtain ⟨rfl, rfl⟩ := e
          exact ⟨m, _, h2, e2, q.1, e3, q.2.cel, frz_plainT _ p⟩
        · cases e
      · cases e
    · cases e
  · cases e
theorem keeps_of {h h' t : MH} (hl : h'.length = h.length) (hc : ∀ (i : Nat) (c : MC), h'[i]? = some c → h[i]? = some c ∨ plainC c = true) : Keeps h (h' ++ t) := ⟨by rw [List.length_append, hl]; omega, fun i c hi e => by
  rw [List.getElem?_append_left (by omega)] at e
  exact hc i c e⟩
theorem take_of {h h' t : MH} (hl : h'.length = h.length) : (h' ++ t).take h.length = h' := by rw [← hl]; simp
/-- what a def's function does, told -/
theorem toldV_at {g : Fn} {args : List MV} {h h' t : MH} {v : MV} (e : g args h = some (v, h' ++ t)) (hp : plainV v = true) (hl : h'.length = h.length) (hc : ∀ (i : Nat) (c : MC), h'[i]? = some c → h[i]? = some c ∨ plainC c = true) : toldV g args h = some (v, h') := by
  unfold toldV
  simp only [e]
  rw [if_pos ⟨hp, keeps_of hl hc⟩, take_of hl]
theorem toldF_dK {g : Fn} {args : List MV} {h h' t : MH} {m : Nat} {kvs : List (MK × MV)} (e : g args h = some (.ref m, h' ++ t)) (hm : (h' ++ t)[m]? = some (.dK kvs)) (hn : h.length ≤ m) (hp : plainK kvs = true) (hl : h'.length = h.length) (hc : ∀ (i : Nat) (c : MC), h'[i]? = some c → h[i]? = some c ∨ plainC c = true) : toldF g args h = some (.dK kvs, h') := by
  unfold toldF
  simp only [e]
  rw [if_pos ⟨hn, keeps_of hl hc⟩]
  simp only [hm]
  rw [if_pos hp, take_of hl]
theorem toldF_lst {g : Fn} {args : List MV} {h h' t : MH} {m : Nat} {kvs : List MV} (e : g args h = some (.ref m, h' ++ t)) (hm : (h' ++ t)[m]? = some (.lst kvs)) (hn : h.length ≤ m) (hp : plainL kvs = true) (hl : h'.length = h.length) (hc : ∀ (i : Nat) (c : MC), h'[i]? = some c → h[i]? = some c ∨ plainC c = true) : toldF g args h = some (.lst kvs, h') := by
  unfold toldF
  simp only [e]
  rw [if_pos ⟨hn, keeps_of hl hc⟩]
  simp only [hm]
  rw [if_pos hp, take_of hl]
theorem plain_ints : ∀ xs : List Int, plainL (xs.map .int) = true
  | [] => rfl
  | _ :: xs => by simp only [List.map_cons, plainL, plainV, Bool.true_and]; exact plain_ints xs
/-- a cell of plain things is written -/
theorem set_plain {h : MH} {d : Nat} {c : MC} (hp : plainC c = true) : ∀ (i : Nat) (c' : MC), (h.set d c)[i]? = some c' → h[i]? = some c' ∨ plainC c' = true := by
  intro i c' e
  rw [List.getElem?_set] at e
  split at e
  · split at e
    · cases e; exact .inr hp
    · cases e
  · exact .inl e
theorem same_plain {h : MH} : ∀ (i : Nat) (c' : MC), h[i]? = some c' → h[i]? = some c' ∨ plainC c' = true := fun _ _ e => .inl e
theorem in_row (h : MH) (r : List Int) (a : Int) : opIn h (.int a) (.row (r.map .int)) = some (.bl (decide (a ∈ r))) := by
  simp only [opIn, seqOf, in_ints, Option.map_some]
theorem notin_row (h : MH) (r : List Int) (a : Int) : opNotIn h (.int a) (.row (r.map .int)) = some (.bl (!decide (a ∈ r))) := by
  simp only [opNotIn, seqOf, in_ints, Option.map_some]
theorem ix_r (h : MH) (xs : List MV) (i : Int) : opIx h (.row xs) (.int i) = atM xs i := by simp only [opIx, seqOf]
theorem len_row {h : MH} {xs : List MV} : fLen h [.row xs] = some (.int xs.length) := by simp only [fLen, seqOf]
theorem seq_row {e : XE} {s : SM} {h h1 : MH} {xs : List MV} (e1 : e s h = some (.row xs, h1)) : iSeq e s h = some (.vals xs, h1) := by simp only [iSeq, e1, seqOf]
theorem ix_ref {h : MH} {n : Nat} {xs : List MV} {i : Int} (e : h[n]? = some (.lst xs)) : opIx h (.ref n) (.int i) = atM xs i := by simp only [opIx, seqOf, listOf, e]
theorem len_ref {h : MH} {n : Nat} {xs : List MV} (e : h[n]? = some (.lst xs)) : fLen h [.ref n] = some (.int xs.length) := by simp only [fLen, seqOf, listOf, e]
theorem len_dK {h : MH} {kvs : List (MK × MV)} : fLen h [.dK kvs] = some (.int kvs.length) := by simp only [fLen, seqOf, listOf, dictK]
theorem len_lst {h : MH} {xs : List MV} : fLen h [.lst xs] = some (.int xs.length) := by simp only [fLen, seqOf, listOf]
theorem tup_lst {h : MH} {xs : List MV} : fTuple h [.lst xs] = some (.row xs) := by simp only [fTuple, seqOf, listOf, Option.map_some]
theorem seq_lst {e : XE} {s : SM} {h h1 : MH} {xs : List MV} (e1 : e s h = some (.lst xs, h1)) : iSeq e s h = some (.vals xs, h1) := by simp only [iSeq, e1, seqOf, listOf]
theorem var_at {i : Nat} {s : SM} {h : MH} {v : MV} (e : s[i]? = some (some v)) : xVar i s h = some (v, h) := by simp only [xVar, e]
theorem call_abc {g : Fn} {a b c : XE} {x y z : MV} {s : SM} {h h1 h2 h3 : MH} (e1 : a s h = some (x, h1)) (e2 : b s h1 = some (y, h2)) (e3 : c s h2 = some (z, h3)) : xCall g (xCons a (xCons b (xCons c xNil))) s h = g [x, y, z] h3 := by simp only [xCall, xCons, xNil, e1, e2, e3]
theorem put_at {o k e : XE} {s : SM} {h h1 h2 h3 h4 : MH} {ov kv v : MV} (e1 : e s h = some (v, h1)) (e2 : o s h1 = some (ov, h2)) (e3 : k s h2 = some (kv, h3)) (e4 : stM h3 ov kv v = some h4) : sPut o k e s h = some (.nx, s, h4) := by simp only [sPut, e1, e2, e3, e4]
/-! ### told: a plain value, or a fresh list or dict as what it holds -/
noncomputable def toldA (g : Fn) : Fn := fun args h => match toldV g args h with
  | some r => some r
  | none => toldF g args h
theorem lt_of_get {h : MH} {m : Nat} {c : MC} (e : h[m]? = some c) : m < h.length := (List.getElem?_eq_some_iff.mp e).1
theorem toldA_ok (g : Fn) : ∀ args h v h', toldA g args h = some (v, h') → FrzOK g args h v h' := by
  intro args h v h' e
  unfold toldA at e
  cases e0 : toldV g args h with
  | some r =>
    rw [e0] at e
    simp only [Option.some.injEq] at e
    subst e
    exact toldV_ok g args h v h' e0
  | none =>
    rw [e0] at e
    simp only at e
    unfold toldF at e
    split at e
    · rename_i m h2 e2
      split at e
      · rename_i q
        split at e
        · rename_i xs e3
          split at e
          · rename_i p
            simp only [Option.some.injEq, Prod.mk.injEq] at e
            obtain ⟨rfl, rfl⟩ := e
            refine ⟨.ref m, h2, e2, q.2.cel, ?_⟩
            simp only [Frz]
            exact .inr ⟨m, xs, rfl, q.1, Nat.ne_of_lt (lt_of_get e3), e3, frz_plainL _ p⟩
          · cases e
        · rename_i xs e3
          split at e
          · rename_i p
            simp only [Option.some.injEq, Prod.mk.injEq] at e
            obtain ⟨rfl, rfl⟩ := e
            refine ⟨.ref m, h2, e2, q.2.cel, ?_⟩
            simp only [Frz]
            exact .inr ⟨m, xs, rfl, q.1, Nat.ne_of_lt (lt_of_get e3), e3, frz_plainK _ p⟩
          · cases e
        · rename_i xs e3
          split at e
          · rename_i p
            simp only [Option.some.injEq, Prod.mk.injEq] at e
            obtain ⟨rfl, rfl⟩ := e
            refine ⟨.ref m, h2, e2, q.2.cel, ?_⟩
            simp only [Frz]
            exact .inr ⟨m, xs, rfl, q.1, Nat.ne_of_lt (lt_of_get e3), e3, frz_plainT _ p⟩
          · cases e
        · cases e
      · cases e
    · cases e
theorem toldA_v {g : Fn} {args : List MV} {h h' t : MH} {v : MV} (e : g args h = some (v, h' ++ t)) (hp : plainV v = true) (hl : h'.length = h.length) (hc : ∀ (i : Nat) (c : MC), h'[i]? = some c → h[i]? = some c ∨ plainC c = true) : toldA g args h = some (v, h') := by
  unfold toldA; rw [toldV_at e hp hl hc]
/-! ### comprehensions over a cell -/
theorem lcCell_mono {g : XG} {c : XT} {e : XE} {n : Nat} : ∀ (m i : Nat) (acc : List MV) (s : SM) (h : MH) (r : List MV × MH), lcCell g c e n m i acc s h = some r → lcCell g c e n (m + 1) i acc s h = some r := by
  intro m
  induction m with
  | zero => intro i acc s h r q; cases q
  | succ m ih =>
    intro i acc s h r q
    unfold lcCell at q ⊢
    cases e1 : h[n]? with
    | none => rw [e1] at q; cases q
    | some cl =>
      rw [e1] at q
      cases cl with
      | lst xs =>
        simp only at q ⊢
        cases e2 : xs[i]? with
        | none => rw [e2] at q; exact q
        | some x =>
          rw [e2] at q
          simp only at q ⊢
          cases e3 : g x s h with
          | none => rw [e3] at q; cases q
          | some p =>
            obtain ⟨s1, h1⟩ := p
            rw [e3] at q
            simp only at q ⊢
            cases e4 : c s1 h1 with
            | none => rw [e4] at q; cases q
            | some p2 =>
              obtain ⟨k, h2⟩ := p2
              rw [e4] at q
              cases k with
              | false => exact ih _ _ _ _ _ q
              | true =>
                simp only at q ⊢
                cases e5 : e s1 h2 with
                | none => rw [e5] at q; cases q
                | some p3 =>
                  obtain ⟨v, h3⟩ := p3
                  rw [e5] at q
                  simp only at q ⊢
                  split at q
                  · rename_i z; rw [if_pos z]; exact ih _ _ _ _ _ q
                  · cases q
      | dK _ => cases q
      | dT _ => cases q
      | lkK _ => cases q
      | lkT _ => cases q
      | tab _ => cases q
end Ew
end

section
set_option linter.all false
set_option maxRecDepth 100000
/-! EwW: plain webs: rows of neighbours, three-cornered webs built point by point. -/
namespace Ew
open PySem (Str)
abbrev WL := List (Int × List Int)
def rowsV (W : WL) : List (MK × MV) := W.map fun p => (.inl p.1, .lst (p.2.map .int))
def websV (W : WL) : List (MK × MV) := W.map fun p => (.inl p.1, .row (p.2.map .int))
def rowOf : WL → Int → Option (List Int)
  | [], _ => none
  | p :: W, u => if p.1 = u then some p.2 else rowOf W u
def keysOf' (W : WL) : List Int := W.map (·.1)
def repRow : WL → Int → List Int → WL
  | [], _, _ => []
  | p :: W, u, r => (if p.1 = u then (p.1, r) else p) :: repRow W u r
def putRow (W : WL) (u : Int) (r : List Int) : WL := if (rowOf W u).isSome then repRow W u r else W ++ [(u, r)]
theorem getK_nil {κ : Type} [DecidableEq κ] (k : κ) : getK ([] : List (κ × MV)) k = none := rfl
theorem getK_cons {κ : Type} [DecidableEq κ] (a : κ) (v : MV) (r : List (κ × MV)) (k : κ) : getK ((a, v) :: r) k = if a = k then some v else getK r k := by
  unfold getK
  rw [List.find?_cons]
  split
  · rename_i h; rw [if_pos (by simpa using h)]; rfl
  · rename_i h; rw [if_neg (by simpa using h)]
theorem getK_gen (f : List Int → MV) : ∀ (W : WL) (u : Int), getK (W.map fun p => ((.inl p.1 : MK), f p.2)) (.inl u) = (rowOf W u).map f
  | [], u => rfl
  | p :: W, u => by
    rw [List.map_cons, getK_cons, rowOf, getK_gen f W u]
    by_cases h : p.1 = u
    · rw [if_pos h, if_pos (by rw [h])]; rfl
    · rw [if_neg h, if_neg (fun z => h (Sum.inl.inj z))]
theorem any_gen (f : List Int → MV) : ∀ (W : WL) (u : Int), ((W.map fun p => ((.inl p.1 : MK), f p.2)).any fun kv => decide (kv.1 = .inl u)) = (rowOf W u).isSome
  | [], u => rfl
  | p :: W, u => by
    rw [List.map_cons, List.any_cons, rowOf, any_gen f W u]
    by_cases h : p.1 = u
    · rw [if_pos h, decide_eq_true (by rw [h])]; rfl
    · rw [if_neg h, decide_eq_false (fun z => h (Sum.inl.inj z))]; rfl
theorem rep_gen (f : List Int → MV) : ∀ (W : WL) (u : Int) (r : List Int), ((W.map fun p => ((.inl p.1 : MK), f p.2)).map fun kv => if kv.1 = .inl u then (kv.1, f r) else kv) = (repRow W u r).map fun p => ((.inl p.1 : MK), f p.2)
  | [], u, r => rfl
  | p :: W, u, r => by
    simp only [List.map_cons, repRow]
    rw [rep_gen f W u r]
    by_cases h : p.1 = u
    · simp [h]
    · simp [h]
theorem putM_gen (f : List Int → MV) (W : WL) (u : Int) (r : List Int) : putM (W.map fun p => ((.inl p.1 : MK), f p.2)) (.inl u) (f r) = (putRow W u r).map fun p => ((.inl p.1 : MK), f p.2) := by
  unfold putM putRow
  rw [any_gen, rep_gen]
  split
  · rfl
  · rw [List.map_append]; rfl
theorem getK_rows (W : WL) (u : Int) : getK (rowsV W) (.inl u) = (rowOf W u).map fun r => .lst (r.map .int) := getK_gen (fun r => .lst (r.map .int)) W u
theorem getK_webs (W : WL) (u : Int) : getK (websV W) (.inl u) = (rowOf W u).map fun r => .row (r.map .int) := getK_gen (fun r => .row (r.map .int)) W u
theorem putM_rows (W : WL) (u : Int) (r : List Int) : putM (rowsV W) (.inl u) (.lst (r.map .int)) = rowsV (putRow W u r) := putM_gen (fun r => .lst (r.map .int)) W u r
theorem putM_webs (W : WL) (u : Int) (r : List Int) : putM (websV W) (.inl u) (.row (r.map .int)) = websV (putRow W u r) := putM_gen (fun r => .row (r.map .int)) W u r
theorem rowOf_rep : ∀ (W : WL) (u : Int) (r : List Int) (v : Int), rowOf (repRow W u r) v = if v = u ∧ (rowOf W u).isSome then some r else rowOf W v
  | [], u, r, v => by simp [repRow, rowOf]
  | p :: W, u, r, v => by
    simp only [repRow, rowOf]
    rw [rowOf_rep W u r v]
    by_cases h : p.1 = u
    · by_cases q : v = u
      · subst q; simp [h]
      · have : ¬ p.1 = v := fun z => q (by rw [← z, h])
        have : ¬ u = v := fun z => q z.symm
        simp [h, q, this]
    · by_cases q : v = u
      · subst q; simp [h]
      · simp [h, q]
theorem rowOf_app : ∀ (W V : WL) (v : Int), rowOf (W ++ V) v = (rowOf W v).or (rowOf V v)
  | [], V, v => by simp [rowOf]
  | p :: W, V, v => by
    rw [List.cons_append, rowOf, rowOf, rowOf_app W V v]
    split <;> simp
theorem rowOf_put (W : WL) (u : Int) (r : List Int) (v : Int) : rowOf (putRow W u r) v = if v = u then some r else rowOf W v := by
  unfold putRow
  split
  · rename_i h
    rw [rowOf_rep]
    simp [h]
  · rename_i h
    rw [rowOf_app]
    by_cases q : v = u
    · subst q
      have : rowOf W v = none := by simpa using h
      simp [this, rowOf]
    · have : ¬ u = v := fun z => q z.symm
      simp [rowOf, q, this]
theorem rowOf_some : ∀ (W : WL) (u : Int), (rowOf W u).isSome = true ↔ u ∈ keysOf' W
  | [], u => by simp [rowOf, keysOf']
  | p :: W, u => by
    have ih := rowOf_some W u
    unfold keysOf' at ih ⊢
    rw [rowOf, List.map_cons, List.mem_cons]
    split
    · rename_i h; simp [h]
    · rename_i h; rw [ih]; exact ⟨.inr, fun z => z.elim (fun q => absurd q.symm h) id⟩
theorem rowOf_mem {W : WL} {u : Int} {r : List Int} (e : rowOf W u = some r) : u ∈ keysOf' W := (rowOf_some W u).mp (by rw [e]; rfl)
theorem rowOf_none {W : WL} {u : Int} (h : u ∉ keysOf' W) : rowOf W u = none := by
  cases e : rowOf W u with
  | none => rfl
  | some r => exact absurd (rowOf_mem e) h
theorem mem_rowOf {W : WL} {u : Int} (h : u ∈ keysOf' W) : ∃ r, rowOf W u = some r := Option.isSome_iff_exists.mp ((rowOf_some W u).mpr h)
theorem keys_rep : ∀ (W : WL) (u : Int) (r : List Int), keysOf' (repRow W u r) = keysOf' W
  | [], _, _ => rfl
  | p :: W, u, r => by
    have ih := keys_rep W u r
    unfold keysOf' at ih ⊢
    simp only [repRow, List.map_cons, ih]
    split <;> rfl
theorem keys_put (W : WL) (u : Int) (r : List Int) : keysOf' (putRow W u r) = if u ∈ keysOf' W then keysOf' W else keysOf' W ++ [u] := by
  unfold putRow
  by_cases h : u ∈ keysOf' W
  · rw [if_pos ((rowOf_some W u).mpr h), if_pos h, keys_rep]
  · rw [if_neg (fun z => h ((rowOf_some W u).mp z)), if_neg h]
    simp [keysOf']
theorem rowOf_of_mem : ∀ {W : WL} {u : Int} {r : List Int}, (keysOf' W).Nodup → (u, r) ∈ W → rowOf W u = some r
  | p :: W, u, r, nd, hm => by
    unfold keysOf' at nd
    rw [List.map_cons, List.nodup_cons] at nd
    rw [rowOf]
    rcases List.mem_cons.mp hm with q | q
    · rw [← q]; simp
    · rw [if_neg (fun z => nd.1 (by rw [z]; exact List.mem_map.mpr ⟨_, q, rfl⟩))]
      exact rowOf_of_mem (by unfold keysOf'; exact nd.2) q
theorem mem_of_rowOf : ∀ {W : WL} {u : Int} {r : List Int}, rowOf W u = some r → (u, r) ∈ W
  | [], u, r, e => by simp [rowOf] at e
  | p :: W, u, r, e => by
    rw [rowOf] at e
    split at e
    · rename_i h
      cases e
      rw [← h]
      exact List.mem_cons_self
    · exact List.mem_cons_of_mem _ (mem_of_rowOf e)
/-! ### rows that go round -/
def nxt (r : List Int) (u : Int) : Int := (r[(r.idxOf u + 1) % r.length]?).getD 0
def ins (r : List Int) (a p : Int) : List Int := r.take (r.idxOf a + 1) ++ [p] ++ r.drop (r.idxOf a + 1)
theorem split_at {r : List Int} {a : Int} (h : a ∈ r) : ∃ l1 l2, r = l1 ++ a :: l2 ∧ a ∉ l1 ∧ r.idxOf a = l1.length := by
  induction r with
  | nil => cases h
  | cons x r ih =>
    by_cases q : x = a
    · subst q; exact ⟨[], r, rfl, by simp, by simp [List.idxOf_cons]⟩
    · obtain ⟨l1, l2, e, n, i⟩ := ih ((List.mem_cons.mp h).resolve_left fun z => q z.symm)
      refine ⟨x :: l1, l2, by rw [e]; rfl, fun z => (List.mem_cons.mp z).elim (fun z => q z.symm) n, ?_⟩
      have qb : (x == a) = false := by simpa using q
      rw [List.idxOf_cons, i, qb]
      rfl
theorem idx_app {l1 l2 : List Int} {a : Int} (h : a ∉ l1) : (l1 ++ a :: l2).idxOf a = l1.length := by
  induction l1 with
  | nil => simp [List.idxOf_cons]
  | cons x l1 ih =>
    have : x ≠ a := fun z => h (by rw [z]; exact List.mem_cons_self)
    have qb : (x == a) = false := by simpa using this
    rw [List.cons_append, List.idxOf_cons, ih (fun z => h (List.mem_cons_of_mem _ z)), qb]
    rfl
theorem nxt_app {l1 l2 : List Int} {a : Int} (h : a ∉ l1) : nxt (l1 ++ a :: l2) a = (l2 ++ l1 ++ [a]).headD 0 := by
  unfold nxt
  rw [idx_app h]
  cases l2 with
  | nil =>
    have e : (l1.length + 1) % (l1 ++ [a]).length = 0 := by rw [List.length_append, List.length_singleton, Nat.mod_self]
    rw [e]
    cases l1 <;> rfl
  | cons b l2 =>
    have e : (l1.length + 1) % (l1 ++ a :: b :: l2).length = l1.length + 1 := Nat.mod_eq_of_lt (by simp)
    rw [e, List.getElem?_append_right (by omega)]
    have : l1.length + 1 - l1.length = 1 := by omega
    rw [this]
    rfl
theorem nxt_mem {r : List Int} {u : Int} (h : u ∈ r) : nxt r u ∈ r := by
  obtain ⟨l1, l2, e, n, _⟩ := split_at h
  subst e
  rw [nxt_app n]
  cases l2 with
  | cons b l2 => simp
  | nil => cases l1 <;> simp
theorem nxt_ne {r : List Int} {u : Int} (h : u ∈ r) (nd : r.Nodup) (h2 : 2 ≤ r.length) : nxt r u ≠ u := by
  obtain ⟨l1, l2, e, n, _⟩ := split_at h
  subst e
  rw [nxt_app n]
  rw [List.nodup_append, List.nodup_cons] at nd
  cases l2 with
  | cons b l2 => exact fun z => nd.2.1.1 (by rw [← z]; exact List.mem_cons_self)
  | nil =>
    cases l1 with
    | nil => simp at h2
    | cons b l1 => exact fun z => n (by rw [← z]; exact List.mem_cons_self)
theorem ins_app {l1 l2 : List Int} {a p : Int} (h : a ∉ l1) : ins (l1 ++ a :: l2) a p = l1 ++ a :: p :: l2 := by
  unfold ins
  rw [idx_app h]
  have e : l1 ++ a :: l2 = (l1 ++ [a]) ++ l2 := by simp
  rw [e, List.take_left' (by simp), List.drop_left' (by simp)]
  simp
section
variable {r : List Int} {a p b : Int} (h : a ∈ r) (hp : p ∉ r)
include h hp
theorem mem_ins {x : Int} : x ∈ ins r a p ↔ x ∈ r ∨ x = p := by
  obtain ⟨l1, l2, e, n, _⟩ := split_at h
  subst e
  rw [ins_app n]
  simp only [List.mem_append, List.mem_cons]
  constructor
  · rintro (q | q | q | q)
    · exact .inl (.inl q)
    · exact .inl (.inr (.inl q))
    · exact .inr q
    · exact .inl (.inr (.inr q))
  · rintro ((q | q | q) | q)
    · exact .inl q
    · exact .inr (.inl q)
    · exact .inr (.inr (.inr q))
    · exact .inr (.inr (.inl q))
theorem nodup_ins (nd : r.Nodup) : (ins r a p).Nodup := by
  obtain ⟨l1, l2, e, n, _⟩ := split_at h
  subst e
  rw [ins_app n]
  have e2 : (l1 ++ a :: p :: l2).Perm (p :: (l1 ++ a :: l2)) := by
    have : (l1 ++ a :: p :: l2) = (l1 ++ [a]) ++ p :: l2 := by simp
    rw [this]
    have : (l1 ++ a :: l2) = (l1 ++ [a]) ++ l2 := by simp
    rw [this]
    exact List.perm_middle
  exact e2.nodup_iff.mpr (List.nodup_cons.mpr ⟨hp, nd⟩)
theorem len_ins : (ins r a p).length = r.length + 1 := by
  obtain ⟨l1, l2, e, n, _⟩ := split_at h
  subst e
  rw [ins_app n]
  simp only [List.length_append, List.length_cons]
  omega
theorem nxt_ins_a : nxt (ins r a p) a = p := by
  obtain ⟨l1, l2, e, n, _⟩ := split_at h
  subst e
  rw [ins_app n, nxt_app n]
  rfl
theorem nxt_ins_p : nxt (ins r a p) p = nxt r a := by
  obtain ⟨l1, l2, e, n, _⟩ := split_at h
  subst e
  have h1 : p ∉ l1 ++ [a] := fun z => hp (by
    rcases List.mem_append.mp z with q | q
    · exact List.mem_append_left _ q
    · exact List.mem_append_right _ (by rw [List.mem_singleton.mp q]; exact List.mem_cons_self))
  rw [ins_app n, nxt_app n]
  have e : l1 ++ a :: p :: l2 = (l1 ++ [a]) ++ p :: l2 := by simp
  rw [e, nxt_app h1]
  cases l2 with
  | cons b l2 => rfl
  | nil => cases l1 <;> rfl
theorem nxt_ins_b (hb : b ∈ r) (hn : b ≠ a) (nd : r.Nodup) : nxt (ins r a p) b = nxt r b := by
  obtain ⟨l1, l2, e, n, _⟩ := split_at h
  subst e
  rw [ins_app n]
  rw [List.nodup_append, List.nodup_cons] at nd
  have hb' : b ∈ l1 ∨ b ∈ l2 := by
    rcases List.mem_append.mp hb with q | q
    · exact .inl q
    · exact .inr ((List.mem_cons.mp q).resolve_left hn)
  have pb : p ≠ b := fun z => hp (by rw [z]; exact hb)
  rcases hb' with q | q
  · obtain ⟨m1, m2, e, n2, _⟩ := split_at q
    subst e
    have e1 : m1 ++ b :: m2 ++ a :: l2 = m1 ++ b :: (m2 ++ a :: l2) := by simp
    have e2 : m1 ++ b :: m2 ++ a :: p :: l2 = m1 ++ b :: (m2 ++ a :: p :: l2) := by simp
    rw [e1, e2, nxt_app n2, nxt_app n2]
    cases m2 <;> rfl
  · obtain ⟨m1, m2, e, n2, _⟩ := split_at q
    subst e
    have h0 : b ∉ l1 := fun z => nd.2.2 b z b (List.mem_cons_of_mem _ q) rfl
    have h1 : b ∉ l1 ++ a :: m1 := fun z => by
      rcases List.mem_append.mp z with w | w
      · exact h0 w
      · rcases List.mem_cons.mp w with w | w
        · exact hn w
        · exact n2 w
    have h2 : b ∉ l1 ++ a :: p :: m1 := fun z => by
      rcases List.mem_append.mp z with w | w
      · exact h0 w
      · rcases List.mem_cons.mp w with w | w
        · exact hn w
        · rcases List.mem_cons.mp w with w | w
          · exact pb w.symm
          · exact n2 w
    have e1 : l1 ++ a :: (m1 ++ b :: m2) = (l1 ++ a :: m1) ++ b :: m2 := by simp
    have e2 : l1 ++ a :: p :: (m1 ++ b :: m2) = (l1 ++ a :: p :: m1) ++ b :: m2 := by simp
    rw [e1, e2, nxt_app h1, nxt_app h2]
    cases m2 with
    | cons c m2 => rfl
    | nil => cases l1 <;> rfl
end
/-! ### three-cornered webs -/
structure Tri (W : WL) : Prop where
  nd : (keysOf' W).Nodup
  row : ∀ u r, rowOf W u = some r → r.Nodup ∧ u ∉ r ∧ 2 ≤ r.length
  sym : ∀ u v r, rowOf W u = some r → v ∈ r → ∃ r', rowOf W v = some r' ∧ u ∈ r'
  face : ∀ u v r r' rw, rowOf W u = some r → v ∈ r → rowOf W v = some r' → rowOf W (nxt r' u) = some rw → nxt rw v = u
def standIn (W : WL) (p x y z : Int) (rx ry rz : List Int) : WL := putRow (putRow (putRow (putRow W y (ins ry x p)) z (ins rz y p)) x (ins rx z p)) p [y, x, z]
theorem nx3 {y x z : Int} (h1 : y ≠ x) (h2 : y ≠ z) (h3 : x ≠ z) : nxt [y, x, z] y = x ∧ nxt [y, x, z] x = z ∧ nxt [y, x, z] z = y := by
  refine ⟨?_, ?_, ?_⟩
  · exact nxt_app (l1 := []) (l2 := [x, z]) (by simp)
  · exact nxt_app (l1 := [y]) (l2 := [z]) (by simp; exact fun e => h1 e.symm)
  · exact nxt_app (l1 := [y, x]) (l2 := []) (by simp; exact ⟨fun e => h2 e.symm, fun e => h3 e.symm⟩)
/-- a face's three points -/
theorem Tri.corners {W : WL} (T : Tri W) {x y : Int} {rx ry : List Int} (ex : rowOf W x = some rx) (hy : y ∈ rx) (ey : rowOf W y = some ry) : x ∈ ry ∧ ∃ rz, rowOf W (nxt ry x) = some rz ∧ nxt ry x ∈ ry ∧ y ∈ rz ∧ nxt ry x ∈ rx ∧ x ∈ rz ∧ y ≠ x ∧ y ≠ nxt ry x ∧ x ≠ nxt ry x ∧ nxt rz y = x ∧ nxt rx (nxt ry x) = y := by
  obtain ⟨ry', ey', hx⟩ := T.sym x y rx ex hy
  rw [ey] at ey'; cases ey'
  obtain ⟨n1, n2, n3⟩ := T.row x rx ex
  obtain ⟨n4, n5, n6⟩ := T.row y ry ey
  have hz := nxt_mem hx
  obtain ⟨rz, ez, hyz⟩ := T.sym y (nxt ry x) ry ey hz
  have f1 := T.face x y rx ry rz ex hy ey ez
  have hxz : x ∈ rz := by rw [← f1]; exact nxt_mem hyz
  obtain ⟨rx', ex', hzx⟩ := T.sym (nxt ry x) x rz ez hxz
  rw [ex] at ex'; cases ex'
  have f2 := T.face y (nxt ry x) ry rz rx ey hz ez (by rw [f1]; exact ex)
  exact ⟨hx, rz, ez, hz, hyz, hzx, hxz, fun e => n2 (by rw [← e]; exact hy), fun e => n5 (by rw [e]; exact hz), fun e => nxt_ne hx n4 n6 e.symm, f1, f2⟩
theorem Tri.stand {W : WL} (T : Tri W) {p x y : Int} {rx ry rz : List Int} (ex : rowOf W x = some rx) (hy : y ∈ rx) (ey : rowOf W y = some ry) (ez : rowOf W (nxt ry x) = some rz) (hp : p ∉ keysOf' W) :
    Tri (standIn W p x y (nxt ry x) rx ry rz) ∧ (∀ u, rowOf (standIn W p x y (nxt ry x) rx ry rz) u = if u = p then some [y, x, nxt ry x] else if u = x then some (ins rx (nxt ry x) p) else if u = nxt ry x then some (ins rz y p) else if u = y then some (ins ry x p) else rowOf W u) ∧ keysOf' (standIn W p x y (nxt ry x) rx ry rz) = keysOf' W ++ [p] := by
  obtain ⟨hx, rz', ez', hz, hyz, hzx, hxz, d1, d2, d3, f1, f2⟩ := T.corners ex hy ey
  rw [ez] at ez'; cases ez'
  generalize hze : nxt ry x = z at *
  have f0 : nxt ry x = z := hze
  have np : ∀ u r, rowOf W u = some r → u ≠ p ∧ p ∉ r := fun u r e => ⟨fun q => hp (by rw [← q]; exact rowOf_mem e), fun q => by
    obtain ⟨r', e', _⟩ := T.sym u p r e q
    exact hp (rowOf_mem e')⟩
  obtain ⟨px, pxr⟩ := np x rx ex
  obtain ⟨py, pyr⟩ := np y ry ey
  obtain ⟨pz, pzr⟩ := np z rz ez
  obtain ⟨nx, nx2, nx3'⟩ := T.row x rx ex
  obtain ⟨ny, ny2, ny3⟩ := T.row y ry ey
  obtain ⟨nz, nz2, nz3⟩ := T.row z rz ez
  have RO : ∀ u, rowOf (standIn W p x y z rx ry rz) u = if u = p then some [y, x, z] else if u = x then some (ins rx z p) else if u = z then some (ins rz y p) else if u = y then some (ins ry x p) else rowOf W u := fun u => by
    unfold standIn
    rw [rowOf_put, rowOf_put, rowOf_put, rowOf_put]
  obtain ⟨t1, t2, t3⟩ := nx3 d1 d2 d3
  have KO : keysOf' (standIn W p x y z rx ry rz) = keysOf' W ++ [p] := by
    have k1 : keysOf' (putRow W y (ins ry x p)) = keysOf' W := by rw [keys_put, if_pos (rowOf_mem ey)]
    have k2 : keysOf' (putRow (putRow W y (ins ry x p)) z (ins rz y p)) = keysOf' W := by rw [keys_put, k1, if_pos (rowOf_mem ez)]
    have k3 : keysOf' (putRow (putRow (putRow W y (ins ry x p)) z (ins rz y p)) x (ins rx z p)) = keysOf' W := by rw [keys_put, k2, if_pos (rowOf_mem ex)]
    unfold standIn
    rw [keys_put, k3, if_neg hp]
  have Rp : rowOf (standIn W p x y z rx ry rz) p = some [y, x, z] := by rw [RO, if_pos rfl]
  have Rx : rowOf (standIn W p x y z rx ry rz) x = some (ins rx z p) := by rw [RO, if_neg px, if_pos rfl]
  have Rz : rowOf (standIn W p x y z rx ry rz) z = some (ins rz y p) := by rw [RO, if_neg pz, if_neg (fun e => d3 e.symm), if_pos rfl]
  have Ry : rowOf (standIn W p x y z rx ry rz) y = some (ins ry x p) := by rw [RO, if_neg py, if_neg d1, if_neg d2, if_pos rfl]
  have Ro : ∀ u, u ≠ p → u ≠ x → u ≠ y → u ≠ z → rowOf (standIn W p x y z rx ry rz) u = rowOf W u := fun u h1 h2 h3 h4 => by rw [RO, if_neg h1, if_neg h2, if_neg h4, if_neg h3]
  -- an old point's new row
  have old : ∀ u r, rowOf W u = some r → ∃ r', rowOf (standIn W p x y z rx ry rz) u = some r' ∧ (∀ v, v ∈ r' ↔ v ∈ r ∨ (v = p ∧ (u = x ∨ u = y ∨ u = z))) ∧ r'.Nodup ∧ r.length ≤ r'.length ∧
      (∀ b, b ∈ r → ¬ ((u = y ∧ b = x) ∨ (u = z ∧ b = y) ∨ (u = x ∧ b = z)) → nxt r' b = nxt r b) := by
    intro u r e
    obtain ⟨up, upr⟩ := np u r e
    obtain ⟨g1, g2, g3⟩ := T.row u r e
    by_cases qx : u = x
    · subst qx
      rw [ex] at e; cases e
      refine ⟨_, Rx, fun v => by rw [mem_ins hzx pxr]; simp, nodup_ins hzx pxr nx, by rw [len_ins hzx pxr]; omega, fun b hb hn => nxt_ins_b hzx pxr hb (fun z => hn (.inr (.inr ⟨rfl, z⟩))) nx⟩
    · by_cases qy : u = y
      · subst qy
        rw [ey] at e; cases e
        refine ⟨_, Ry, fun v => by rw [mem_ins hx pyr]; simp, nodup_ins hx pyr ny, by rw [len_ins hx pyr]; omega, fun b hb hn => nxt_ins_b hx pyr hb (fun z => hn (.inl ⟨rfl, z⟩)) ny⟩
      · by_cases qz : u = z
        · subst qz
          rw [ez] at e; cases e
          refine ⟨_, Rz, fun v => by rw [mem_ins hyz pzr]; simp, nodup_ins hyz pzr nz, by rw [len_ins hyz pzr]; omega, fun b hb hn => nxt_ins_b hyz pzr hb (fun z => hn (.inr (.inl ⟨rfl, z⟩))) nz⟩
        · refine ⟨r, by rw [Ro u up qx qy qz]; exact e, fun v => by simp [qx, qy, qz], g1, Nat.le_refl _, fun b _ _ => rfl⟩
  have back : ∀ u r', u ≠ p → rowOf (standIn W p x y z rx ry rz) u = some r' → ∃ r, rowOf W u = some r := fun u r' h e => by
    have hm := rowOf_mem e
    rw [KO] at hm
    rcases List.mem_append.mp hm with q | q
    · exact mem_rowOf q
    · exact absurd (List.mem_singleton.mp q) h
  refine ⟨⟨?_, ?_, ?_, ?_⟩, RO, KO⟩
  · rw [KO]
    exact List.nodup_append.mpr ⟨T.nd, by simp, fun a ha b hb => by rw [List.mem_singleton.mp hb]; rintro rfl; exact hp ha⟩
  · intro u r' e
    by_cases q : u = p
    · subst q
      rw [Rp] at e; cases e
      refine ⟨by simp [d1, d2, d3], by simp; exact ⟨fun e => py e.symm, fun e => px e.symm, fun e => pz e.symm⟩, by simp⟩
    · obtain ⟨r, er⟩ := back u r' q e
      obtain ⟨r2, e2, m2, n2, l2, _⟩ := old u r er
      rw [e] at e2; cases e2
      obtain ⟨g1, g2, g3⟩ := T.row u r er
      refine ⟨n2, fun hm => ?_, by omega⟩
      rcases (m2 u).mp hm with w | w
      · exact g2 w
      · exact q w.1
  · intro u v r' e hv
    by_cases q : u = p
    · subst q
      rw [Rp] at e; cases e
      simp only [List.mem_cons, List.not_mem_nil, or_false] at hv
      rcases hv with rfl | rfl | rfl
      · exact ⟨_, Ry, (mem_ins hx pyr).mpr (.inr rfl)⟩
      · exact ⟨_, Rx, (mem_ins hzx pxr).mpr (.inr rfl)⟩
      · exact ⟨_, Rz, (mem_ins hyz pzr).mpr (.inr rfl)⟩
    · obtain ⟨r, er⟩ := back u r' q e
      obtain ⟨r2, e2, m2, n2, l2, _⟩ := old u r er
      rw [e] at e2; cases e2
      rcases (m2 v).mp hv with w | ⟨rfl, w⟩
      · obtain ⟨rv, ev, hu⟩ := T.sym u v r er w
        obtain ⟨rv', ev', mv', _⟩ := old v rv ev
        exact ⟨rv', ev', (mv' u).mpr (.inl hu)⟩
      · exact ⟨_, Rp, by rcases w with rfl | rfl | rfl <;> simp⟩
  · intro u v ru rv rw' eu hv ev ew
    by_cases qv : v = p
    · -- behind p
      subst qv
      rw [Rp] at ev; cases ev
      have hu : u ≠ v := fun e => by
        subst e
        rw [Rp] at eu; cases eu
        simp at hv
        rcases hv with h | h | h
        · exact py h.symm
        · exact px h.symm
        · exact pz h.symm
      obtain ⟨r, er⟩ := back u ru hu eu
      obtain ⟨r2, e2, m2, _⟩ := old u r er
      rw [eu] at e2; cases e2
      rcases (m2 v).mp hv with w | ⟨_, w⟩
      · exact absurd w (np u r er).2
      · rcases w with rfl | rfl | rfl
        · rw [t2, Rz] at ew; cases ew
          rw [nxt_ins_p hyz pzr]; exact f1
        · rw [t1, Rx] at ew; cases ew
          rw [nxt_ins_p hzx pxr]; exact f2
        · rw [t3, Ry] at ew; cases ew
          rw [nxt_ins_p hx pyr]; exact f0
    · obtain ⟨r0, er0⟩ := back v rv qv ev
      obtain ⟨rv2, ev2, mv2, nv2, lv2, xv2⟩ := old v r0 er0
      rw [ev] at ev2; cases ev2
      by_cases qu : u = p
      · subst qu
        rw [Rp] at eu; cases eu
        simp only [List.mem_cons, List.not_mem_nil, or_false] at hv
        rcases hv with rfl | rfl | rfl
        · rw [Ry] at ev; cases ev
          rw [nxt_ins_p hx pyr, f0, Rz] at ew; cases ew
          exact nxt_ins_a hyz pzr
        · rw [Rx] at ev; cases ev
          rw [nxt_ins_p hzx pxr, f2, Ry] at ew; cases ew
          exact nxt_ins_a hx pyr
        · rw [Rz] at ev; cases ev
          rw [nxt_ins_p hyz pzr, f1, Rx] at ew; cases ew
          exact nxt_ins_a hzx pxr
      · obtain ⟨r, er⟩ := back u ru qu eu
        obtain ⟨ru2, eu2, mu2, _⟩ := old u r er
        rw [eu] at eu2; cases eu2
        have hv0 : v ∈ r := by
          rcases (mu2 v).mp hv with w | w
          · exact w
          · exact absurd w.1 qv
        obtain ⟨rv', ev', hu0⟩ := T.sym u v r er hv0
        rw [er0] at ev'; cases ev'
        by_cases c : (v = y ∧ u = x) ∨ (v = z ∧ u = y) ∨ (v = x ∧ u = z)
        · rcases c with ⟨rfl, rfl⟩ | ⟨rfl, rfl⟩ | ⟨rfl, rfl⟩
          · rw [Ry] at ev; cases ev
            rw [nxt_ins_a hx pyr, Rp] at ew; cases ew
            exact t1
          · rw [Rz] at ev; cases ev
            rw [nxt_ins_a hyz pzr, Rp] at ew; cases ew
            exact t3
          · rw [Rx] at ev; cases ev
            rw [nxt_ins_a hzx pxr, Rp] at ew; cases ew
            exact t2
        · rw [xv2 u hu0 c] at ew
          have hw := nxt_mem hu0
          obtain ⟨w0, ew0, hvw⟩ := T.sym v (nxt r0 u) r0 er0 hw
          have fo := T.face u v r r0 w0 er hv0 er0 ew0
          obtain ⟨rw2, ew2, mw2, nw2, lw2, xw2⟩ := old (nxt r0 u) w0 ew0
          rw [ew] at ew2; cases ew2
          rw [xw2 v hvw ?_]
          · exact fo
          · rintro (⟨g1, rfl⟩ | ⟨g1, rfl⟩ | ⟨g1, rfl⟩)
            · -- behind u stands y, v is x
              rw [g1, ey] at ew0; cases ew0
              exact c (.inr (.inr ⟨rfl, by rw [← fo]; exact f0⟩))
            · rw [g1, ez] at ew0; cases ew0
              exact c (.inl ⟨rfl, by rw [← fo]; exact f1⟩)
            · rw [g1, ex] at ew0; cases ew0
              exact c (.inr (.inl ⟨rfl, by rw [← fo]; exact f2⟩))
/-! ### reading and writing rows -/
theorem look_rows {h : MH} {d : MV} {W : WL} {u : Int} {r : List Int} (e : dictK h d = some (rowsV W)) (q : rowOf W u = some r) : lookM h d (.int u) = some (some (.lst (r.map .int))) := by
  simp only [lookM, e, keyOf, getK_rows, q, Option.map_some]
theorem look_webs {h : MH} {d : MV} {W : WL} {u : Int} {r : List Int} (e : dictK h d = some (websV W)) (q : rowOf W u = some r) : lookM h d (.int u) = some (some (.row (r.map .int))) := by
  simp only [lookM, e, keyOf, getK_webs, q, Option.map_some]
theorem ix_rows {h : MH} {m : Nat} {W : WL} {u : Int} {r : List Int} (e : h[m]? = some (.dK (rowsV W))) (q : rowOf W u = some r) : opIx h (.ref m) (.int u) = some (.lst (r.map .int)) := by
  have e1 : dictK h (.ref m) = some (rowsV W) := by simp only [dictK, e]
  simp only [opIx, seqOf, listOf, e, look_rows e1 q]
theorem ix_rowsV {h : MH} {W : WL} {u : Int} {r : List Int} (q : rowOf W u = some r) : opIx h (.dK (rowsV W)) (.int u) = some (.lst (r.map .int)) := by
  simp only [opIx, seqOf, listOf, look_rows (h := h) (d := .dK (rowsV W)) rfl q]
theorem ix_websV {h : MH} {W : WL} {u : Int} {r : List Int} (q : rowOf W u = some r) : opIx h (.dK (websV W)) (.int u) = some (.row (r.map .int)) := by
  simp only [opIx, seqOf, listOf, look_webs (h := h) (d := .dK (websV W)) rfl q]
theorem put_rows {h : MH} {m : Nat} {W : WL} {u : Int} {r : List Int} (e : h[m]? = some (.dK (rowsV W))) (hz : W.length < szLine) : stM h (.ref m) (.int u) (.lst (r.map .int)) = some (h.set m (.dK (rowsV (putRow W u r)))) := by
  have hz' : (rowsV W).length < szLine := by simpa [rowsV] using hz
  simp only [stM, e, keyOf, hz', if_true, putM_rows]
theorem put_webs {h : MH} {m : Nat} {W : WL} {u : Int} {r : List Int} (e : h[m]? = some (.dK (websV W))) (hz : W.length < szLine) : stM h (.ref m) (.int u) (.row (r.map .int)) = some (h.set m (.dK (websV (putRow W u r)))) := by
  have hz' : (websV W).length < szLine := by simpa [websV] using hz
  simp only [stM, e, keyOf, hz', if_true, putM_webs]
theorem keysV_rows (W : WL) : (rowsV W).map (fun kv => keyV kv.1) = (keysOf' W).map .int := by
  simp [rowsV, keysOf', keyV, List.map_map, Function.comp_def]
theorem keysV_webs (W : WL) : (websV W).map (fun kv => keyV kv.1) = (keysOf' W).map .int := by
  simp [websV, keysOf', keyV, List.map_map, Function.comp_def]
theorem plain_rows : ∀ W : WL, plainK (rowsV W) = true
  | [] => rfl
  | p :: W => by simp only [rowsV, List.map_cons, plainK, plainV, plain_ints, Bool.true_and]; exact plain_rows W
theorem plain_webs : ∀ W : WL, plainK (websV W) = true
  | [] => rfl
  | p :: W => by simp only [websV, List.map_cons, plainK, plainV, plain_ints, Bool.true_and]; exact plain_webs W
theorem keys_len (W : WL) : (keysOf' W).length = W.length := by simp [keysOf']
/-! ### webs -/
structure Web (W : WL) : Prop where
  nd : (keysOf' W).Nodup
  row : ∀ u r, rowOf W u = some r → r.Nodup ∧ u ∉ r
  sym : ∀ u v r, rowOf W u = some r → v ∈ r → ∃ r', rowOf W v = some r' ∧ u ∈ r'
theorem Tri.web {W : WL} (T : Tri W) : Web W := ⟨T.nd, fun u r e => ⟨(T.row u r e).1, (T.row u r e).2.1⟩, T.sym⟩
/-- a web's rows changed, each within what it was -/
def mapRows (f : Int → List Int → List Int) (W : WL) : WL := W.map fun p => (p.1, f p.1 p.2)
theorem rowOf_map (f : Int → List Int → List Int) : ∀ (W : WL) (u : Int), rowOf (mapRows f W) u = (rowOf W u).map (f u)
  | [], u => rfl
  | p :: W, u => by
    show rowOf ((p.1, f p.1 p.2) :: mapRows f W) u = _
    rw [rowOf, rowOf, rowOf_map f W u]
    split
    · rename_i h
      have h' : p.1 = u := h
      rw [h']; rfl
    · rfl
theorem keys_map (f : Int → List Int → List Int) (W : WL) : keysOf' (mapRows f W) = keysOf' W := by simp [keysOf', mapRows, Function.comp_def]
theorem Web.thin {W : WL} (w : Web W) (P : Int → Int → Bool) (hs : ∀ u v, P u v = P v u) : Web (mapRows (fun u r => r.filter (P u)) W) := by
  refine ⟨by rw [keys_map]; exact w.nd, fun u r e => ?_, fun u v r e hv => ?_⟩
  · rw [rowOf_map] at e
    cases q : rowOf W u with
    | none => rw [q] at e; cases e
    | some r0 =>
      rw [q] at e
      cases e
      exact ⟨(w.row u r0 q).1.filter _, fun h => (w.row u r0 q).2 (List.mem_filter.mp h).1⟩
  · rw [rowOf_map] at e
    cases q : rowOf W u with
    | none => rw [q] at e; cases e
    | some r0 =>
      rw [q] at e
      cases e
      obtain ⟨h1, h2⟩ := List.mem_filter.mp hv
      obtain ⟨r', e', hu⟩ := w.sym u v r0 q h1
      refine ⟨_, by rw [rowOf_map, e']; rfl, List.mem_filter.mpr ⟨hu, by rw [hs]; exact h2⟩⟩
theorem Web.perm {W V : WL} (w : Web W) (f : Int → List Int → List Int) (hp : V.Perm W) (hf : ∀ u r, (f u r).Perm r) : Web (mapRows f V) := by
  have nd : (keysOf' V).Nodup := (hp.map _).nodup_iff.mpr w.nd
  have ro : ∀ u r, rowOf V u = some r ↔ rowOf W u = some r := fun u r => ⟨fun e => rowOf_of_mem w.nd (hp.mem_iff.mp (mem_of_rowOf e)), fun e => rowOf_of_mem nd (hp.mem_iff.mpr (mem_of_rowOf e))⟩
  refine ⟨by rw [keys_map]; exact nd, fun u r e => ?_, fun u v r e hv => ?_⟩
  · rw [rowOf_map] at e
    cases q : rowOf V u with
    | none => rw [q] at e; cases e
    | some r0 =>
      rw [q] at e
      cases e
      obtain ⟨h1, h2⟩ := w.row u r0 ((ro u r0).mp q)
      exact ⟨(hf u r0).nodup_iff.mpr h1, fun h => h2 ((hf u r0).mem_iff.mp h)⟩
  · rw [rowOf_map] at e
    cases q : rowOf V u with
    | none => rw [q] at e; cases e
    | some r0 =>
      rw [q] at e
      cases e
      obtain ⟨r', e', hu⟩ := w.sym u v r0 ((ro u r0).mp q) ((hf u r0).mem_iff.mp hv)
      exact ⟨_, by rw [rowOf_map, (ro v r').mpr e']; rfl, (hf v r').mem_iff.mpr hu⟩
theorem Web.join {W V : WL} (w : Web W) (v : Web V) (hd : ∀ u, u ∈ keysOf' W → u ∉ keysOf' V) : Web (W ++ V) := by
  have k : keysOf' (W ++ V) = keysOf' W ++ keysOf' V := by simp [keysOf']
  have ro : ∀ u r, rowOf (W ++ V) u = some r ↔ rowOf W u = some r ∨ rowOf V u = some r := fun u r => by
    rw [rowOf_app]
    cases q : rowOf W u with
    | none => simp
    | some r0 =>
      have : rowOf V u = none := rowOf_none (hd u (rowOf_mem q))
      simp [this]
  refine ⟨by rw [k]; exact List.nodup_append.mpr ⟨w.nd, v.nd, fun a ha b hb e => hd a ha (by rw [e]; exact hb)⟩, fun u r e => ?_, fun u x r e hx => ?_⟩
  · rcases (ro u r).mp e with q | q
    · exact w.row u r q
    · exact v.row u r q
  · rcases (ro u r).mp e with q | q
    · obtain ⟨r', e', h⟩ := w.sym u x r q hx
      exact ⟨r', (ro x r').mpr (.inl e'), h⟩
    · obtain ⟨r', e', h⟩ := v.sym u x r q hx
      exact ⟨r', (ro x r').mpr (.inr e'), h⟩
theorem nx2 {b c : Int} (h : b ≠ c) : nxt [b, c] b = c ∧ nxt [b, c] c = b := ⟨nxt_app (l1 := []) (l2 := [c]) (by simp), nxt_app (l1 := [b]) (l2 := []) (by simp; exact fun e => h e.symm)⟩
def tri0 (a b c : Int) : WL := [(a, [b, c]), (b, [c, a]), (c, [a, b])]
theorem tri0_ok {a b c : Int} (h1 : a ≠ b) (h2 : a ≠ c) (h3 : b ≠ c) : Tri (tri0 a b c) := by
  have ro : ∀ u r, rowOf (tri0 a b c) u = some r ↔ (u = a ∧ r = [b, c]) ∨ (u = b ∧ r = [c, a]) ∨ (u = c ∧ r = [a, b]) := fun u r => by
    simp only [tri0, rowOf]
    by_cases q1 : a = u
    · subst q1; simp [h1, h2]; exact eq_comm
    · by_cases q2 : b = u
      · subst q2; simp [h1, h3, Ne.symm h1]; exact eq_comm
      · by_cases q3 : c = u
        · subst q3; simp [h2, h3, Ne.symm h2, Ne.symm h3]; exact eq_comm
        · have : ¬ u = a := fun z => q1 z.symm
          have : ¬ u = b := fun z => q2 z.symm
          have : ¬ u = c := fun z => q3 z.symm
          simp [*]
  obtain ⟨a1, a2⟩ := nx2 h3
  obtain ⟨b1, b2⟩ := nx2 (Ne.symm h2)
  obtain ⟨c1, c2⟩ := nx2 h1
  refine ⟨by simp [keysOf', tri0, h1, h2, h3], fun u r e => ?_, fun u v r e hv => ?_, fun u v r r' rw' e hv ev ew => ?_⟩
  · rcases (ro u r).mp e with ⟨rfl, rfl⟩ | ⟨rfl, rfl⟩ | ⟨rfl, rfl⟩
    · simp [h1, h2, h3]
    · simp [h1, h2, h3, Ne.symm h1, Ne.symm h2]
    · simp [h1, h2, h3, Ne.symm h2, Ne.symm h3]
  · rcases (ro u r).mp e with ⟨rfl, rfl⟩ | ⟨rfl, rfl⟩ | ⟨rfl, rfl⟩ <;> simp only [List.mem_cons, List.not_mem_nil, or_false] at hv <;> rcases hv with rfl | rfl
    · exact ⟨_, (ro _ _).mpr (.inr (.inl ⟨rfl, rfl⟩)), by simp⟩
    · exact ⟨_, (ro _ _).mpr (.inr (.inr ⟨rfl, rfl⟩)), by simp⟩
    · exact ⟨_, (ro _ _).mpr (.inr (.inr ⟨rfl, rfl⟩)), by simp⟩
    · exact ⟨_, (ro _ _).mpr (.inl ⟨rfl, rfl⟩), by simp⟩
    · exact ⟨_, (ro _ _).mpr (.inl ⟨rfl, rfl⟩), by simp⟩
    · exact ⟨_, (ro _ _).mpr (.inr (.inl ⟨rfl, rfl⟩)), by simp⟩
  · have ra : rowOf (tri0 a b c) a = some [b, c] := (ro _ _).mpr (.inl ⟨rfl, rfl⟩)
    have rb : rowOf (tri0 a b c) b = some [c, a] := (ro _ _).mpr (.inr (.inl ⟨rfl, rfl⟩))
    have rc : rowOf (tri0 a b c) c = some [a, b] := (ro _ _).mpr (.inr (.inr ⟨rfl, rfl⟩))
    rcases (ro u r).mp e with ⟨rfl, rfl⟩ | ⟨rfl, rfl⟩ | ⟨rfl, rfl⟩ <;> simp only [List.mem_cons, List.not_mem_nil, or_false] at hv <;> rcases hv with rfl | rfl
    · rw [rb] at ev; cases ev; rw [b2, rc] at ew; cases ew; exact c2
    · rw [rc] at ev; cases ev; rw [c1, rb] at ew; cases ew; exact b1
    · rw [rc] at ev; cases ev; rw [c2, ra] at ew; cases ew; exact a2
    · rw [ra] at ev; cases ev; rw [a1, rc] at ew; cases ew; exact c1
    · rw [ra] at ev; cases ev; rw [a2, rb] at ew; cases ew; exact b2
    · rw [rb] at ev; cases ev; rw [b1, ra] at ew; cases ew; exact a1
theorem step_inj {b y i j : Int} (hy : y = 1 ∨ y = 3 ∨ y = 7 ∨ y = 9 ∨ y = 11 ∨ y = 13 ∨ y = 271 ∨ y = 389 ∨ y = 613 ∨ y = 997) (hi : 0 ≤ i ∧ i < 1000) (hj : 0 ≤ j ∧ j < 1000) (e : (b + i * y) % 1000 = (b + j * y) % 1000) : i = j := by
  have h2 : (1000 : Int) ∣ (b + i * y) - (b + j * y) := Int.dvd_of_emod_eq_zero (by rw [Int.sub_emod, e, Int.sub_self]; rfl)
  obtain ⟨m, hm⟩ := h2
  have h3 : (i - j) * y = 1000 * m := by rw [Int.sub_mul]; omega
  have key : ∀ z t : Int, y * z = 1 + 1000 * t → i = j := fun z t q => by
    have h4 : (i - j) * (y * z) = 1000 * (m * z) := by rw [← Int.mul_assoc, h3, Int.mul_assoc]
    rw [q, Int.mul_add, Int.mul_one] at h4
    have h5 : (i - j) * (1000 * t) = 1000 * ((i - j) * t) := by rw [← Int.mul_assoc, Int.mul_comm (i - j) 1000, Int.mul_assoc]
    rw [h5] at h4
    omega
  rcases hy with rfl | rfl | rfl | rfl | rfl | rfl | rfl | rfl | rfl | rfl
  · exact key 1 0 (by decide)
  · exact key 667 2 (by decide)
  · exact key 143 1 (by decide)
  · exact key 889 8 (by decide)
  · exact key 91 1 (by decide)
  · exact key 77 1 (by decide)
  · exact key 631 171 (by decide)
  · exact key 509 198 (by decide)
  · exact key 677 415 (by decide)
  · exact key 333 332 (by decide)
theorem few : ∀ (n : Nat) (r : List Int), r.Nodup → (∀ v ∈ r, 0 ≤ v ∧ v < n) → r.length ≤ n
  | 0, r, _, h => by
    cases r with
    | nil => simp
    | cons x r => have := h x List.mem_cons_self; omega
  | n + 1, r, nd, h => by
    have h1 := few n (r.erase (n : Int)) (nd.erase _) (fun v hv => by
      have h2 := h v (List.mem_of_mem_erase hv)
      have h3 : v ≠ (n : Int) := fun e => by
        rw [e] at hv
        exact (List.Nodup.not_mem_erase nd) hv
      omega)
    by_cases q : (n : Int) ∈ r
    · rw [List.length_erase_of_mem q] at h1; omega
    · rw [List.erase_of_not_mem q] at h1; omega
theorem Web.len {W : WL} (w : Web W) (hn : ∀ u ∈ keysOf' W, 0 ≤ u ∧ u < 1000) {u : Int} {r : List Int} (e : rowOf W u = some r) : r.length ≤ 1000 :=
  few 1000 r (w.row u r e).1 fun v hv => by
    obtain ⟨r', e', _⟩ := w.sym u v r e hv
    exact hn v (rowOf_mem e')
theorem keys_app (W V : WL) : keysOf' (W ++ V) = keysOf' W ++ keysOf' V := by simp [keysOf']
theorem put_app {W : WL} {u : Int} {r : List Int} (h : u ∉ keysOf' W) : putRow W u r = W ++ [(u, r)] := by
  unfold putRow
  rw [rowOf_none h]
  rfl
/-! ### dicts of what was seen -/
def seenV (S : List Int) : List (MK × MV) := S.map fun p => (.inl p, .bl true)
theorem getK_seen : ∀ (S : List Int) (p : Int), getK (seenV S) (.inl p) = if p ∈ S then some (.bl true) else none
  | [], p => by simp [seenV, getK_nil]
  | x :: S, p => by
    have ih := getK_seen S p
    unfold seenV at ih ⊢
    rw [List.map_cons, getK_cons, ih]
    by_cases q : x = p
    · subst q; simp
    · have : ¬ p = x := fun z => q z.symm
      rw [if_neg (fun z => q (Sum.inl.inj z))]
      simp [this]
theorem look_seen {h : MH} {d : MV} {S : List Int} (e : dictK h d = some (seenV S)) (p : Int) : lookM h d (.int p) = some (if p ∈ S then some (.bl true) else none) := by
  simp only [lookM, e, keyOf, getK_seen]
theorem in_seen {h : MH} {m : Nat} {S : List Int} (e : h[m]? = some (.dK (seenV S))) (p : Int) : opIn h (.int p) (.ref m) = some (.bl (decide (p ∈ S))) := by
  have e1 : dictK h (.ref m) = some (seenV S) := by simp only [dictK, e]
  simp only [opIn, seqOf, listOf, e, look_seen e1, Option.map_some]
  by_cases q : p ∈ S <;> simp [q]
theorem notin_seen {h : MH} {m : Nat} {S : List Int} (e : h[m]? = some (.dK (seenV S))) (p : Int) : opNotIn h (.int p) (.ref m) = some (.bl (!decide (p ∈ S))) := by
  have e1 : dictK h (.ref m) = some (seenV S) := by simp only [dictK, e]
  simp only [opNotIn, seqOf, listOf, e, look_seen e1, Option.map_some]
  by_cases q : p ∈ S <;> simp [q]
theorem put_seen {h : MH} {m : Nat} {S : List Int} {p : Int} (e : h[m]? = some (.dK (seenV S))) (hp : p ∉ S) (hz : S.length < szLine) : stM h (.ref m) (.int p) (.bl true) = some (h.set m (.dK (seenV (S ++ [p])))) := by
  have hz' : (seenV S).length < szLine := by simpa [seenV] using hz
  have e2 : putM (seenV S) (.inl p) (.bl true) = seenV (S ++ [p]) := by
    unfold putM
    have : ((seenV S).any fun kv => decide (kv.1 = .inl p)) = false := by
      rw [List.any_eq_false]
      intro kv hk
      obtain ⟨x, hx, rfl⟩ := List.mem_map.mp hk
      have : x ≠ p := fun z => hp (by rw [← z]; exact hx)
      simpa using this
    rw [this]
    simp [seenV]
  simp only [stM, e, keyOf, hz', if_true, e2]
/-- a web's keys asked for -/
theorem in_webs (h : MH) (W : WL) (p : Int) : opIn h (.int p) (.dK (websV W)) = some (.bl (decide (p ∈ keysOf' W))) := by
  have e1 : lookM h (.dK (websV W)) (.int p) = some ((rowOf W p).map fun r => .row (r.map .int)) := by simp only [lookM, dictK, keyOf, getK_webs]
  simp only [opIn, seqOf, listOf, e1, Option.map_some]
  have := rowOf_some W p
  cases q : rowOf W p with
  | none => rw [q] at this; simp at this; simp [this]
  | some r => rw [q] at this; simp at this; simp [this]
theorem isD_rints (n : Nat) (xs : List Int) : isD (n + 1) (.row (xs.map .int)) = true := by simp only [isD]; exact isDs_ints n xs
theorem isDs_webs : ∀ (W : WL), dataKs (websV W) = true
  | [] => rfl
  | p :: W => by
    have ih := isDs_webs W
    unfold dataKs websV at ih ⊢
    rw [List.map_cons, List.all_cons, isD_rints 49, ih]
    rfl
theorem eqD_rints (xs ys : List Int) : eqD (.row (xs.map .int)) (.row (ys.map .int)) = (xs == ys) := by simp only [eqD, eqDs_ints]
theorem eqKs_webs {W : WL} (nd : (keysOf' W).Nodup) : eqKs (websV W) (websV W) = true := by
  unfold eqKs
  rw [beq_self_eq_true, Bool.true_and, List.all_eq_true]
  intro kv hm
  obtain ⟨p, hp, rfl⟩ := List.mem_map.mp hm
  have := rowOf_of_mem nd (show (p.1, p.2) ∈ W from hp)
  simp only [getK_webs, this, Option.map_some, eqD_rints, beq_self_eq_true]
theorem ne_webs (h : MH) {W : WL} (nd : (keysOf' W).Nodup) : opNe h (.dK (websV W)) (.dK (websV W)) = some (.bl false) := by
  simp only [opNe, dictK, isDs_webs, Bool.and_self, if_true, eqKs_webs nd]; rfl
theorem dict_webs : ∀ (V W : WL), (keysOf' V).Nodup → (∀ u ∈ keysOf' V, u ∉ keysOf' W) → mergeM (websV W) (websV V) = websV (W ++ V)
  | [], W, _, _ => by simp [websV, mergeM]
  | (u, r) :: V, W, nd, h => by
    have nd' : u ∉ keysOf' V ∧ (keysOf' V).Nodup := by simpa [keysOf'] using nd
    have e : mergeM (websV W) (websV ((u, r) :: V)) = mergeM (putM (websV W) (.inl u) (.row (r.map .int))) (websV V) := rfl
    rw [e, putM_webs, put_app (h u (by simp [keysOf'])), dict_webs V (W ++ [(u, r)]) nd'.2 (fun x hx => by
      rw [keys_app]
      intro hm
      rcases List.mem_append.mp hm with q | q
      · exact h x (by simp [keysOf'] at hx ⊢; exact .inr hx) q
      · have : x = u := by simpa [keysOf'] using q
        exact nd'.1 (by rw [← this]; exact hx))]
    simp
theorem ints_of_map : ∀ xs : List Int, intsOf (xs.map .int) = some xs
  | [] => rfl
  | x :: xs => by rw [List.map_cons, intsOf, ints_of_map xs]; rfl
theorem sortI_perm (xs : List Int) : (sortI xs).Perm xs := List.mergeSort_perm _ _
theorem sortI_sorted (xs : List Int) : (sortI xs).Pairwise (· ≤ ·) := by
  have := List.pairwise_mergeSort (le := fun x y : Int => decide (x ≤ y)) (fun a b c h1 h2 => by simp at *; omega) (fun a b => by simp; omega) xs
  exact this.imp fun h => by simpa using h
theorem sorted_tup (h : MH) (xs : List Int) : fSorted h [.tup (xs.map .int)] = some (.lst ((sortI xs).map .int)) := by
  simp only [fSorted, seqOf, ints_of_map]
theorem sorted_lst (h : MH) (xs : List Int) : fSorted h [.lst (xs.map .int)] = some (.lst ((sortI xs).map .int)) := by
  simp only [fSorted, seqOf, listOf, ints_of_map]
theorem keysS_webs (h : MH) (W : WL) : fKeysS h (.dK (websV W)) = some (.lst ((sortI (keysOf' W)).map .int)) := by
  simp only [fKeysS, dictK, keysV_webs, ints_of_map, Option.map_some]
theorem keysT_webs (h : MH) (W : WL) : fKeysT h (.dK (websV W)) = some (.tup ((keysOf' W).map .int)) := by
  simp only [fKeysT, dictK, keysV_webs, Option.map_some]
theorem keysL_webs (h : MH) (W : WL) : fKeys h (.dK (websV W)) = some (.lst ((keysOf' W).map .int)) := by
  simp only [fKeys, dictK, keysV_webs, Option.map_some]
theorem take_snoc {α : Type} {W : List α} {i : Nat} {p : α} (e : W[i]? = some p) : W.take (i + 1) = W.take i ++ [p] := by rw [List.take_add_one, e]; rfl
/-! ### dicts by their keys -/
def mapV (ks : List Int) (f : Int → MV) : List (MK × MV) := ks.map fun p => (.inl p, f p)
theorem plain_mapV {f : Int → MV} (hf : ∀ p, plainV (f p) = true) : ∀ ks : List Int, plainK (mapV ks f) = true
  | [] => rfl
  | p :: ks => by simp only [mapV, List.map_cons, plainK, hf, Bool.true_and]; exact plain_mapV hf ks
/-! ### lists of ints -/
theorem sorted_eq : ∀ {a b : List Int}, a.Perm b → a.Pairwise (· ≤ ·) → b.Pairwise (· ≤ ·) → a = b
  | [], b, h, _, _ => by rw [List.nil_perm.mp h]
  | x :: a, [], h, _, _ => by have := List.perm_nil.mp h; cases this
  | x :: a, y :: b, h, ha, hb => by
    obtain ⟨ha1, ha2⟩ := List.pairwise_cons.mp ha
    obtain ⟨hb1, hb2⟩ := List.pairwise_cons.mp hb
    have e : x = y := by
      have m1 : x ∈ y :: b := h.mem_iff.mp List.mem_cons_self
      have m2 : y ∈ x :: a := h.mem_iff.mpr List.mem_cons_self
      rcases List.mem_cons.mp m1 with q | q
      · exact q
      · rcases List.mem_cons.mp m2 with q2 | q2
        · exact q2.symm
        · have := hb1 x q; have := ha1 y q2; omega
    subst e
    rw [sorted_eq (List.Perm.cons_inv h) ha2 hb2]
theorem sortI_eq {a b : List Int} (h : a.Perm b) : sortI a = sortI b := sorted_eq ((sortI_perm a).trans (h.trans (sortI_perm b).symm)) (sortI_sorted a) (sortI_sorted b)
theorem sub_len : ∀ {l k : List Int}, l.Nodup → (∀ x ∈ l, x ∈ k) → l.length ≤ k.length
  | [], k, _, _ => by simp
  | x :: l, k, nd, h => by
    obtain ⟨h1, h2⟩ := List.nodup_cons.mp nd
    have hx := h x List.mem_cons_self
    have := sub_len (k := k.erase x) h2 (fun y hy => (List.mem_erase_of_ne (fun z => h1 (by rw [← z]; exact hy))).mpr (h y (List.mem_cons_of_mem _ hy)))
    rw [List.length_erase_of_mem hx] at this
    have := List.length_pos_of_mem hx
    simp only [List.length_cons]
    omega
/-! ### dicts of int keys, any values -/
def dictI (D : List (Int × MV)) : List (MK × MV) := D.map fun p => (.inl p.1, p.2)
theorem websI (W : WL) : websV W = dictI (W.map fun p => (p.1, .row (p.2.map .int))) := by simp [websV, dictI, Function.comp_def]
theorem getK_dictI : ∀ {D : List (Int × MV)} {p : Int} {v : MV}, (D.map (·.1)).Nodup → (p, v) ∈ D → getK (dictI D) (.inl p) = some v
  | (q, u) :: D, p, v, nd, h => by
    obtain ⟨n1, n2⟩ := List.nodup_cons.mp nd
    unfold dictI
    rw [List.map_cons, getK_cons]
    rcases List.mem_cons.mp h with z | z
    · cases z; rw [if_pos rfl]
    · have : q ≠ p := fun w => n1 (by rw [w]; exact List.mem_map.mpr ⟨(p, v), z, rfl⟩)
      rw [if_neg (fun w => this (Sum.inl.inj w))]
      exact getK_dictI n2 z
theorem put_dictI {h : MH} {m : Nat} {D : List (Int × MV)} {p : Int} {v : MV} (e : h[m]? = some (.dK (dictI D))) (hp : p ∉ D.map (·.1)) (hz : D.length < szLine) : stM h (.ref m) (.int p) v = some (h.set m (.dK (dictI (D ++ [(p, v)])))) := by
  have hz' : (dictI D).length < szLine := by simpa [dictI] using hz
  have e2 : putM (dictI D) (.inl p) v = dictI (D ++ [(p, v)]) := by
    unfold putM
    have : ((dictI D).any fun kv => decide (kv.1 = .inl p)) = false := by
      rw [List.any_eq_false]
      intro kv hk
      obtain ⟨x, hx, rfl⟩ := List.mem_map.mp hk
      have : x.1 ≠ p := fun z => hp (List.mem_map.mpr ⟨x, hx, z⟩)
      simpa using this
    rw [this]
    simp [dictI]
  simp only [stM, e, keyOf, hz', if_true, e2]
theorem keysV_dictI (D : List (Int × MV)) : (dictI D).map (fun kv => keyV kv.1) = (D.map (·.1)).map .int := by simp [dictI, keyV, Function.comp_def]
theorem plain_dictI : ∀ {D : List (Int × MV)}, (∀ p ∈ D, plainV p.2 = true) → plainK (dictI D) = true
  | [], _ => rfl
  | p :: D, h => by
    have := plain_dictI (D := D) fun q hq => h q (List.mem_cons_of_mem _ hq)
    unfold dictI at this ⊢
    simp only [List.map_cons, plainK, h p List.mem_cons_self, this, Bool.and_self]
end Ew
end

section
set_option linter.all false
set_option maxRecDepth 100000
/-! EwX: steps through the machine's bodies. -/
namespace Ew
open PySem (Str)
/-! ### sorted by a lambda -/
/-! ### pairs of ints -/
theorem plain_pairs : ∀ L : List (Int × Int), plainL (L.map pairV) = true
  | [] => rfl
  | p :: L => by
    have := plain_pairs L
    simp only [List.map_cons, plainL, plainV, pairV, Bool.and_true, Bool.true_and] at this ⊢
    exact this
theorem isDs_pairs (n : Nat) : ∀ L : List (Int × Int), isDs (n + 1) (L.map pairV) = true
  | [] => rfl
  | p :: L => by
    have := isDs_pairs n L
    simp only [List.map_cons, isDs, this, pairV, isD, Bool.and_self]
theorem eqD_pair (p q : Int × Int) : eqD (pairV p) (pairV q) = decide (p = q) := by
  simp only [pairV, eqD, eqDs, Bool.and_true]
  rw [Bool.eq_iff_iff]
  simp only [Bool.and_eq_true, beq_iff_eq, decide_eq_true_eq, Prod.ext_iff]
theorem eqDs_pairs : ∀ L M : List (Int × Int), eqDs (L.map pairV) (M.map pairV) = decide (L = M)
  | [], [] => rfl
  | [], _ :: _ => by simp [eqDs]
  | _ :: _, [] => by simp [eqDs]
  | p :: L, q :: M => by
    simp only [List.map_cons, eqDs, eqD_pair, eqDs_pairs L M]
    rw [Bool.eq_iff_iff]
    simp only [Bool.and_eq_true, decide_eq_true_eq, List.cons.injEq]
theorem ne_pairs {h : MH} (L M : List (Int × Int)) : opNe h (.lst (L.map pairV)) (.lst (M.map pairV)) = some (.bl (!decide (L = M))) := by
  simp only [opNe, dictK, opNe0, rdM, eqM, isD, isDs_pairs, Bool.and_self, if_true, eqD, eqDs_pairs, Option.map_some]
theorem ne_pair {h : MH} (p q : Int × Int) : opNe h (pairV p) (pairV q) = some (.bl (!decide (p = q))) := by
  have e1 : isD 60 (pairV p) = true := rfl
  have e2 : isD 60 (pairV q) = true := rfl
  show (eqM (pairV p) (pairV q)).map (fun k => MV.bl (!k)) = _
  simp only [eqM, e1, e2, Bool.and_self, if_true, eqD_pair, Option.map_some]
theorem pairsI_map : ∀ L : List (Int × Int), pairsI (L.map pairV) = some L
  | [] => rfl
  | p :: L => by
    have := pairsI_map L
    simp only [List.map_cons, pairV] at this ⊢
    simp only [pairsI, this, Option.map_some]
theorem sorted_pairs (h : MH) (L : List (Int × Int)) : fSorted h [.lst (L.map pairV)] = some (.lst ((sortP L).map pairV)) := by
  cases L with
  | nil => simp [fSorted, seqOf, listOf, intsOf, sortI, sortP]
  | cons p L =>
    have e1 : intsOf ((p :: L).map pairV) = none := by simp only [List.map_cons, pairV, intsOf]
    simp only [fSorted, seqOf, listOf, e1, pairsI_map, Option.map_some]
/-! ### rows' slices -/
/-- a slice of a row is a row -/
theorem slR_at {e : XE} {lo hi : XO} {s : SM} {h h1 h2 h3 : MH} {xs : List MV} {l u : Option Int} (e1 : e s h = some (.row xs, h1)) (e2 : lo s h1 = some (l, h2)) (e3 : hi s h2 = some (u, h3)) : xSlT e lo hi s h = some (.row (cutM xs l u), h3) := by
  unfold xSlT
  simp only [e1, e2, e3]
theorem catR_at {h : MH} {xs ys : List MV} (hl : xs.length + ys.length ≤ 1000000) : opCatT h (.row xs) (.row ys) = some (.row (xs ++ ys)) := by
  have : xs.length + ys.length ≤ szLine := by unfold szLine; omega
  simp only [opCatT, tupV, this, if_true]
  cases xs with
  | nil => rfl
  | cons a xs =>
    cases ys with
    | nil => simp
    | cons b ys => rfl
/-- for k in d.keys(), d a cell -/
theorem forK_ref {n m : Nat} {g : XG} {b : XS} {s s' : SM} {h h' : MH} {kvs kvs' : List (MK × MV)} {f : Fl} (e1 : s[n]? = some (some (.ref m))) (e2 : h[m]? = some (.dK kvs)) (e3 : forGo g b (kvs.map fun kv => keyV kv.1) s (h.set m (.lkK kvs)) = some (f, s', h')) (e4 : h'[m]? = some (.lkK kvs')) : sForK n g b s h = some (f, s', h'.set m (.dK kvs')) := by
  simp only [sForK, e1, e2, e3, e4]
/-! ### lists of rows -/
def tupsV (L : List (List Int)) : List MV := L.map fun r => .row (r.map .int)
theorem plain_tups : ∀ L : List (List Int), plainL (tupsV L) = true
  | [] => rfl
  | r :: L => by
    have := plain_tups L
    unfold tupsV at this ⊢
    simp only [List.map_cons, plainL, plainV, plain_ints, this, Bool.and_self]
theorem len_flat : ∀ L : List (List Int), (∀ r ∈ L, r ≠ []) → L.length ≤ L.flatten.length
  | [], _ => by simp
  | r :: L, h => by
    have ih := len_flat L fun q hq => h q (List.mem_cons_of_mem _ hq)
    have := List.length_pos_iff.mpr (h r List.mem_cons_self)
    simp only [List.length_cons, List.flatten_cons, List.length_append]
    omega
theorem extend_at {o e : XE} {s : SM} {h h1 h2 : MH} {n : Nat} {xs ys zs : List MV} (e1 : o s h = some (.ref n, h1)) (e2 : h1[n]? = some (.lst ys)) (e3 : e s h1 = some (.lst zs, h2)) (e4 : h2[n]? = some (.lst xs)) (hz : xs.length + zs.length ≤ szLine) :
    xExtend o e s h = some (.non, h2.set n (.lst (xs ++ zs))) := by
  have c : isLstC h1 n = true := by simp only [isLstC, e2]
  simp only [xExtend, e1, c, if_true, e3, listOf, e4, hz]
theorem notin_webs (h : MH) (W : WL) (p : Int) : opNotIn h (.int p) (.dK (websV W)) = some (.bl (!decide (p ∈ keysOf' W))) := by
  have e := in_webs h W p
  simp only [opIn, opNotIn, seqOf, listOf] at e ⊢
  cases q : lookM h (.dK (websV W)) (.int p) with
  | none => rw [q] at e; cases e
  | some o =>
    rw [q] at e
    simp only [Option.map_some, Option.some.injEq, MV.bl.injEq] at e ⊢
    rw [e]
theorem sorted_ref {h : MH} {n : Nat} {xs : List Int} (e : h[n]? = some (.lst (xs.map .int))) : fSorted h [.ref n] = some (.lst ((sortI xs).map .int)) := by
  simp only [fSorted, seqOf, listOf, e, ints_of_map]
/-! ### walks over a cell's list that stays as it is -/
def rowsAt (W : WL) (u : Int) : List Int := (rowOf W u).getD []
theorem rowsAt_of {W : WL} {u : Int} {r : List Int} (e : rowOf W u = some r) : rowsAt W u = r := by unfold rowsAt; rw [e]; rfl
end Ew
end

section
set_option linter.all false
set_option maxRecDepth 100000
/-! EwZ: what a run ends with, by rules of one step each. -/
namespace Ew
open PySem (Str)
def Wp (o : Option (Fl × SM × MH)) (Q : Fl → SM → MH → Prop) : Prop := ∃ f s h, o = some (f, s, h) ∧ Q f s h
def We (o : Option (MV × MH)) (Q : MV → MH → Prop) : Prop := ∃ v h, o = some (v, h) ∧ Q v h
def Wt (o : Option (Bool × MH)) (Q : Bool → MH → Prop) : Prop := ∃ v h, o = some (v, h) ∧ Q v h
def Wa (o : Option (List MV × MH)) (Q : List MV → MH → Prop) : Prop := ∃ v h, o = some (v, h) ∧ Q v h
def Wv (o : Option MV) (Q : MV → Prop) : Prop := ∃ v, o = some v ∧ Q v
def Wm (o : Option MH) (Q : MH → Prop) : Prop := ∃ v, o = some v ∧ Q v
def Wg (o : Option (SM × MH)) (Q : SM → MH → Prop) : Prop := ∃ s h, o = some (s, h) ∧ Q s h
def Wi (o : Option (MI × MH)) (Q : MI → MH → Prop) : Prop := ∃ v h, o = some (v, h) ∧ Q v h
def Wo (o : Option (Option Int × MH)) (Q : Option Int → MH → Prop) : Prop := ∃ v h, o = some (v, h) ∧ Q v h
theorem wp_of {o : Option (Fl × SM × MH)} {f : Fl} {s : SM} {h : MH} {Q : Fl → SM → MH → Prop} (e : o = some (f, s, h)) (q : Q f s h) : Wp o Q := ⟨_, _, _, e, q⟩
theorem we_of {o : Option (MV × MH)} {v : MV} {h : MH} {Q : MV → MH → Prop} (e : o = some (v, h)) (q : Q v h) : We o Q := ⟨_, _, e, q⟩
theorem wt_of {o : Option (Bool × MH)} {v : Bool} {h : MH} {Q : Bool → MH → Prop} (e : o = some (v, h)) (q : Q v h) : Wt o Q := ⟨_, _, e, q⟩
theorem wa_of {o : Option (List MV × MH)} {v : List MV} {h : MH} {Q : List MV → MH → Prop} (e : o = some (v, h)) (q : Q v h) : Wa o Q := ⟨_, _, e, q⟩
theorem wv_of {o : Option MV} {v : MV} {Q : MV → Prop} (e : o = some v) (q : Q v) : Wv o Q := ⟨_, e, q⟩
theorem wm_of {o : Option MH} {v : MH} {Q : MH → Prop} (e : o = some v) (q : Q v) : Wm o Q := ⟨_, e, q⟩
theorem wg_of {o : Option (SM × MH)} {v : SM} {h : MH} {Q : SM → MH → Prop} (e : o = some (v, h)) (q : Q v h) : Wg o Q := ⟨_, _, e, q⟩
theorem wi_of {o : Option (MI × MH)} {v : MI} {h : MH} {Q : MI → MH → Prop} (e : o = some (v, h)) (q : Q v h) : Wi o Q := ⟨_, _, e, q⟩
theorem we_mono {o : Option (MV × MH)} {P Q : MV → MH → Prop} (w : We o P) (k : ∀ v h, P v h → Q v h) : We o Q := by
  obtain ⟨f, h, e, p⟩ := w; exact ⟨f, h, e, k _ _ p⟩
theorem we_eq {o : Option (MV × MH)} {v : MV} {h : MH} (w : We o fun v' h' => v' = v ∧ h' = h) : o = some (v, h) := by
  obtain ⟨f, s, e, rfl, rfl⟩ := w; exact e
/-! ### branches -/
def kB (k : Bool) (A B : Prop) : Prop := if k = true then A else B
theorem kB_t {A B : Prop} (a : A) : kB true A B := by unfold kB; rw [if_pos rfl]; exact a
theorem kB_f {A B : Prop} (b : B) : kB false A B := by unfold kB; rw [if_neg Bool.noConfusion]; exact b
theorem br_by {k : Bool} {A B : Prop} (a : k = true → A) (b : k = false → B) : kB k A B := by cases k; exact kB_f (b rfl); exact kB_t (a rfl)
/-- a truth as a value -/
def kV (v : MV) (R : Bool → Prop) : Prop := ∃ k, v = .bl k ∧ R k
theorem kV_bl {k : Bool} {R : Bool → Prop} (r : R k) : kV (.bl k) R := ⟨k, rfl, r⟩
theorem kB_nt {A B : Prop} (b : B) : kB (!true) A B := kB_f b
theorem kB_nf {A B : Prop} (a : A) : kB (!false) A B := kB_t a
theorem kB_tt {A B : Prop} (a : A) : kB (decide (true = true)) A B := kB_t a
theorem kB_ff {A B : Prop} (a : A) : kB (decide (false = false)) A B := kB_t a
theorem kB_tf {A B : Prop} (b : B) : kB (decide (true = false)) A B := kB_f b
theorem kB_ft {A B : Prop} (b : B) : kB (decide (false = true)) A B := kB_f b
theorem kB_ntt {A B : Prop} (a : B) : kB (!decide (true = true)) A B := kB_f a
theorem kB_nff {A B : Prop} (a : B) : kB (!decide (false = false)) A B := kB_f a
theorem kB_ntf {A B : Prop} (b : A) : kB (!decide (true = false)) A B := kB_t b
theorem kB_nft {A B : Prop} (b : A) : kB (!decide (false = true)) A B := kB_t b
/-! ### statements -/
def kS (b : XS) (Q : Fl → SM → MH → Prop) (f : Fl) (s : SM) (h : MH) : Prop := match f with
  | .nx => Wp (b s h) Q
  | f => Q f s h
section
variable {a b : XS} {e o k : XE} {s : SM} {h : MH} {Q : Fl → SM → MH → Prop} {R : MV → MH → Prop} {c d : XT}
theorem kS_nx (w : Wp (b s h) Q) : kS b Q .nx s h := w
theorem kS_rt {v : MV} (w : Q (.rt v) s h) : kS b Q (.rt v) s h := w
theorem kS_bk (w : Q .bk s h) : kS b Q .bk s h := w
theorem kS_ct (w : Q .ct s h) : kS b Q .ct s h := w
theorem wp_seq (w : Wp (a s h) (kS b Q)) : Wp (sSeq a b s h) Q := by
  obtain ⟨f, s1, h1, e, q⟩ := w
  cases f with
  | nx => obtain ⟨f2, s2, h2, e2, q2⟩ := q; exact ⟨f2, s2, h2, by simp only [sSeq, e, e2], q2⟩
  | rt v => exact ⟨_, _, _, by simp only [sSeq, e], q⟩
  | bk => exact ⟨_, _, _, by simp only [sSeq, e], q⟩
  | ct => exact ⟨_, _, _, by simp only [sSeq, e], q⟩
theorem wp_next (q : Q .nx s h) : Wp (sNext s h) Q := ⟨_, _, _, rfl, q⟩
theorem wp_expr (w : We (e s h) fun _ h1 => Q .nx s h1) : Wp (sExpr e s h) Q := by
  obtain ⟨v, h1, e1, q⟩ := w; exact ⟨_, _, _, by simp only [sExpr, e1], q⟩
theorem wp_ret (w : We (e s h) fun v h1 => Q (.rt v) s h1) : Wp (sRet e s h) Q := by
  obtain ⟨v, h1, e1, q⟩ := w; exact ⟨_, _, _, by simp only [sRet, e1], q⟩
theorem wp_retN (q : Q (.rt .non) s h) : Wp (sRetN s h) Q := ⟨_, _, _, rfl, q⟩
theorem wp_bk (q : Q .bk s h) : Wp (sBk s h) Q := ⟨_, _, _, rfl, q⟩
theorem wp_ct (q : Q .ct s h) : Wp (sCt s h) Q := ⟨_, _, _, rfl, q⟩
theorem wp_if (w : Wt (c s h) fun k h1 => kB k (Wp (a s h1) Q) (Wp (b s h1) Q)) : Wp (sIf c a b s h) Q := by
  obtain ⟨v, h1, e1, q⟩ := w
  cases v with
  | true => obtain ⟨f2, s2, h2, e2, q2⟩ := q; exact ⟨f2, s2, h2, by simp only [sIf, e1, e2], q2⟩
  | false => obtain ⟨f2, s2, h2, e2, q2⟩ := q; exact ⟨f2, s2, h2, by simp only [sIf, e1, e2], q2⟩
theorem wp_asg {g : XG} (w : We (e s h) fun v h1 => Wg (g v s h1) fun s2 h2 => Q .nx s2 h2) : Wp (sAsg e g s h) Q := by
  obtain ⟨v, h1, e1, s2, h2, e2, q⟩ := w; exact ⟨_, _, _, by simp only [sAsg, e1, e2], q⟩
theorem wp_put (w : We (e s h) fun v h1 => We (o s h1) fun d h2 => We (k s h2) fun kk h3 => Wm (stM h3 d kk v) fun h4 => Q .nx s h4) : Wp (sPut o k e s h) Q := by
  obtain ⟨v, h1, e1, d, h2, e2, kk, h3, e3, h4, e4, q⟩ := w; exact ⟨_, _, _, by simp only [sPut, e1, e2, e3, e4], q⟩
theorem wp_par {i j : Nat} (w : We (e s h) fun v h1 => We (o s h1) fun w h2 => Wg (gNm i v s h2) fun s2 h3 => Wg (gNm j w s2 h3) fun s3 h4 => Q .nx s3 h4) : Wp (sPar i j e o s h) Q := by
  obtain ⟨v, h1, e1, d, h2, e2, s2, h3, e3, s3, h4, e4, q⟩ := w; cases e3; cases e4; exact ⟨_, _, _, by simp only [sPar, e1, e2], q⟩
theorem wp_par3 {i j l : Nat} (w : We (e s h) fun v h1 => We (o s h1) fun w h2 => We (k s h2) fun x h3 => Wg (gNm i v s h3) fun s2 h4 => Wg (gNm j w s2 h4) fun s3 h5 => Wg (gNm l x s3 h5) fun s4 h6 => Q .nx s4 h6) : Wp (sPar3 i j l e o k s h) Q := by
  obtain ⟨v, h1, e1, d, h2, e2, x, h3, e3, s4, h4, e4, s5, h5, e5, s6, h6, e6, q⟩ := w; cases e4; cases e5; cases e6; exact ⟨_, _, _, by simp only [sPar3, e1, e2, e3], q⟩
/-! ### targets -/
theorem wg_nm {i : Nat} {v : MV} {P : SM → MH → Prop} (q : P (s.set i (some v)) h) : Wg (gNm i v s h) P := ⟨_, _, rfl, q⟩
theorem wg_nm' {i : Nat} {v : MV} {s2 : SM} {P : SM → MH → Prop} (e : s.set i (some v) = s2) (q : P s2 h) : Wg (gNm i v s h) P := ⟨_, _, rfl, e ▸ q⟩
theorem wg_tp {n : Nat} {g : XGs} {xs : List MV} {P : SM → MH → Prop} (e : xs.length = n) (w : Wg (g xs s h) P) : Wg (gTp n g (.tup xs) s h) P := by
  obtain ⟨s2, h2, e2, q⟩ := w; exact ⟨s2, h2, by simp only [gTp, e, e2, if_true], q⟩
theorem wg_rw {n : Nat} {g : XGs} {xs : List MV} {P : SM → MH → Prop} (e : xs.length = n) (w : Wg (g xs s h) P) : Wg (gTp n g (.row xs) s h) P := by
  obtain ⟨s2, h2, e2, q⟩ := w; exact ⟨s2, h2, by simp only [gTp, e, e2, if_true], q⟩
theorem wg_pair {g : XGs} {p : Int × Int} {P : SM → MH → Prop} (w : Wg (g [.int p.1, .int p.2] s h) P) : Wg (gTp 2 g (pairV p) s h) P := wg_tp rfl w
theorem wg_lp {n : Nat} {g : XGs} {xs : List MV} {P : SM → MH → Prop} (e : xs.length = n) (w : Wg (g xs s h) P) : Wg (gLp n g (.lst xs) s h) P := by
  obtain ⟨s2, h2, e2, q⟩ := w; exact ⟨s2, h2, by simp only [gLp, listOf, e, e2, if_true], q⟩
theorem wg_nil {P : SM → MH → Prop} (q : P s h) : Wg (gsNil [] s h) P := ⟨_, _, rfl, q⟩
theorem wg_cons {g : XG} {r : XGs} {v : MV} {vs : List MV} {P : SM → MH → Prop} (w : Wg (g v s h) fun s1 h1 => Wg (r vs s1 h1) P) : Wg (gsCons g r (v :: vs) s h) P := by
  obtain ⟨s1, h1, e1, s2, h2, e2, q⟩ := w; exact ⟨_, _, by simp only [gsCons, e1, e2], q⟩
/-! ### expressions -/
theorem we_var {i : Nat} {v : MV} (e : s[i]? = some (some v)) (q : R v h) : We (xVar i s h) R := ⟨_, _, var_at e, q⟩
theorem we_c {v : MV} (q : R v h) : We (xC v s h) R := ⟨_, _, rfl, q⟩
theorem we_op {f : MH → MV → MV → Option MV} (w : We (e s h) fun x h1 => We (o s h1) fun y h2 => Wv (f h2 x y) fun v => R v h2) : We (xOp f e o s h) R := by
  obtain ⟨x, h1, e1, y, h2, e2, v, e3, q⟩ := w; exact ⟨_, _, op_at e1 e2 e3, q⟩
theorem we_un {f : MH → MV → Option MV} (w : We (e s h) fun x h1 => Wv (f h1 x) fun v => R v h1) : We (xUn f e s h) R := by
  obtain ⟨x, h1, e1, v, e3, q⟩ := w; exact ⟨_, _, un_at e1 e3, q⟩
theorem wa_nil {P : List MV → MH → Prop} (q : P [] h) : Wa (xNil s h) P := ⟨_, _, rfl, q⟩
theorem wa_cons {r : XA} {P : List MV → MH → Prop} (w : We (e s h) fun x h1 => Wa (r s h1) fun xs h2 => P (x :: xs) h2) : Wa (xCons e r s h) P := by
  obtain ⟨x, h1, e1, xs, h2, e2, q⟩ := w; exact ⟨_, _, by simp only [xCons, e1, e2], q⟩
theorem we_args {f : MH → List MV → Option MV} {r : XA} (w : Wa (r s h) fun xs h1 => Wv (f h1 xs) fun v => R v h1) : We (xArgs f r s h) R := by
  obtain ⟨xs, h1, e1, v, e2, q⟩ := w; exact ⟨_, _, by simp only [xArgs, e1, e2], q⟩
theorem we_call {g : Fn} {r : XA} (w : Wa (r s h) fun xs h1 => We (g xs h1) R) : We (xCall g r s h) R := by
  obtain ⟨xs, h1, e1, v, h2, e2, q⟩ := w; exact ⟨_, _, by simp only [xCall, e1, e2], q⟩
theorem we_tup {r : XA} (w : Wa (r s h) fun xs h1 => R (.tup xs) h1) : We (xTup r s h) R := by
  obtain ⟨xs, h1, e1, q⟩ := w; exact ⟨_, _, by simp only [xTup, e1], q⟩
theorem we_tupR {r : XA} (w : Wa (r s h) fun xs h1 => R (.row xs) h1) : We (xTupR r s h) R := by
  obtain ⟨xs, h1, e1, q⟩ := w; exact ⟨_, _, by simp only [xTupR, e1], q⟩
theorem we_lst {r : XA} (w : Wa (r s h) fun xs h1 => R (.lst xs) h1) : We (xLst r s h) R := by
  obtain ⟨xs, h1, e1, q⟩ := w; exact ⟨_, _, by simp only [xLst, e1], q⟩
theorem we_box (w : We (e s h) fun v h1 => We (boxM v h1) R) : We (xBox e s h) R := by
  obtain ⟨v, h1, e1, v2, h2, e2, q⟩ := w; exact ⟨_, _, by simp only [xBox, e1, e2], q⟩
theorem we_boxl {xs : List MV} (q : R (.ref h.length) (h ++ [.lst xs])) : We (boxM (.lst xs) h) R := ⟨_, _, rfl, q⟩
theorem we_boxk {xs : List (MK × MV)} (q : R (.ref h.length) (h ++ [.dK xs])) : We (boxM (.dK xs) h) R := ⟨_, _, rfl, q⟩
theorem we_boxt {xs : List (List MK × MV)} (q : R (.ref h.length) (h ++ [.dT xs])) : We (boxM (.dT xs) h) R := ⟨_, _, rfl, q⟩
theorem we_if (w : Wt (c s h) fun k h1 => kB k (We (e s h1) R) (We (o s h1) R)) : We (xIf c e o s h) R := by
  obtain ⟨v, h1, e1, q⟩ := w
  cases v with
  | true => obtain ⟨s2, h2, e2, q2⟩ := q; exact ⟨s2, h2, by simp only [xIf, e1, e2], q2⟩
  | false => obtain ⟨s2, h2, e2, q2⟩ := q; exact ⟨s2, h2, by simp only [xIf, e1, e2], q2⟩
theorem we_and (w : We (e s h) fun v h1 => kV v fun k => kB k (We (o s h1) R) (R (.bl false) h1)) : We (xAnd e o s h) R := by
  obtain ⟨v, h1, e1, k, rfl, q⟩ := w
  cases k with
  | true => obtain ⟨s2, h2, e2, q2⟩ := q; exact ⟨s2, h2, by simp only [xAnd, e1, e2], q2⟩
  | false => exact ⟨_, _, by simp only [xAnd, e1], q⟩
theorem we_or (w : We (e s h) fun v h1 => kV v fun k => kB k (R (.bl true) h1) (We (o s h1) R)) : We (xOr e o s h) R := by
  obtain ⟨v, h1, e1, k, rfl, q⟩ := w
  cases k with
  | false => obtain ⟨s2, h2, e2, q2⟩ := q; exact ⟨s2, h2, by simp only [xOr, e1, e2], q2⟩
  | true => exact ⟨_, _, by simp only [xOr, e1], q⟩
theorem we_not (w : We (e s h) fun v h1 => kV v fun k => R (.bl (!k)) h1) : We (xNot e s h) R := by
  obtain ⟨v, h1, e1, k, rfl, q⟩ := w
  exact ⟨_, _, by simp only [xNot, e1], q⟩
theorem we_chain {f f' : MH → MV → MV → Option MV} (w : We (e s h) fun x h1 => We (o s h1) fun y h2 => Wv (f h2 x y) fun v => kV v fun t => kB t (We (k s h2) fun z h3 => Wv (f' h3 y z) fun v => R v h3) (R (.bl false) h2)) : We (xChain f f' e o k s h) R := by
  obtain ⟨x, h1, e1, y, h2, e2, v, e3, t, rfl, q⟩ := w
  cases t with
  | true => obtain ⟨z, h3, e4, v, e5, q⟩ := q; exact ⟨_, _, by simp only [xChain, e1, e2, e3, e4, e5], q⟩
  | false => exact ⟨_, _, by simp only [xChain, e1, e2, e3], q⟩
/-! ### tests -/
theorem wt_b {P : Bool → MH → Prop} (w : We (e s h) fun v h1 => kV v fun k => P k h1) : Wt (xB e s h) P := by
  obtain ⟨v, h1, e1, k, rfl, q⟩ := w; exact ⟨_, _, by simp only [xB, e1], q⟩
theorem wt_and {P : Bool → MH → Prop} (w : Wt (c s h) fun k h1 => kB k (Wt (d s h1) P) (P false h1)) : Wt (xAndT c d s h) P := by
  obtain ⟨k, h1, e1, q⟩ := w
  cases k with
  | true => obtain ⟨s2, h2, e2, q2⟩ := q; exact ⟨s2, h2, by simp only [xAndT, e1, e2], q2⟩
  | false => exact ⟨_, _, by simp only [xAndT, e1], q⟩
theorem wt_or {P : Bool → MH → Prop} (w : Wt (c s h) fun k h1 => kB k (P true h1) (Wt (d s h1) P)) : Wt (xOrT c d s h) P := by
  obtain ⟨k, h1, e1, q⟩ := w
  cases k with
  | false => obtain ⟨s2, h2, e2, q2⟩ := q; exact ⟨s2, h2, by simp only [xOrT, e1, e2], q2⟩
  | true => exact ⟨_, _, by simp only [xOrT, e1], q⟩
theorem wt_not {P : Bool → MH → Prop} (w : Wt (c s h) fun k h1 => P (!k) h1) : Wt (xNotT c s h) P := by
  obtain ⟨k, h1, e1, q⟩ := w; exact ⟨_, _, by simp only [xNotT, e1], q⟩
theorem wt_yes {P : Bool → MH → Prop} (q : P true h) : Wt (cYes s h) P := ⟨_, _, rfl, q⟩
/-! ### what is walked -/
/-- a list, a tuple read as what is walked -/
def kI (v : MV) (h : MH) (P : MI → MH → Prop) : Prop := (∃ n xs, v = .ref n ∧ h[n]? = some (.lst xs) ∧ P (.cell n) h) ∨ (∃ xs, seqOf h v = some xs ∧ (∀ n, v ≠ .ref n) ∧ P (.vals xs) h)
theorem wi_seq {P : MI → MH → Prop} (w : We (e s h) fun v h1 => kI v h1 P) : Wi (iSeq e s h) P := by
  obtain ⟨v, h1, e1, ⟨n, xs, rfl, e2, q⟩ | ⟨xs, e2, nr, q⟩⟩ := w
  · exact ⟨_, _, by simp only [iSeq, e1, e2], q⟩
  · cases v with
    | ref n => exact absurd rfl (nr n)
    | _ => first | exact ⟨_, _, by simp only [iSeq, e1, e2], q⟩ | exact ⟨_, _, by simp [iSeq, e1, e2], q⟩
theorem kI_row {xs : List MV} {P : MI → MH → Prop} (q : P (.vals xs) h) : kI (.row xs) h P := .inr ⟨xs, rfl, (fun _ e => nomatch e), q⟩
theorem kI_tup {xs : List MV} {P : MI → MH → Prop} (q : P (.vals xs) h) : kI (.tup xs) h P := .inr ⟨xs, rfl, (fun _ e => nomatch e), q⟩
theorem kI_lst {xs : List MV} {P : MI → MH → Prop} (q : P (.vals xs) h) : kI (.lst xs) h P := .inr ⟨xs, rfl, (fun _ e => nomatch e), q⟩
theorem kI_ref {n : Nat} {xs : List MV} {P : MI → MH → Prop} (e : h[n]? = some (.lst xs)) (q : P (.cell n) h) : kI (.ref n) h P := .inl ⟨n, xs, rfl, e, q⟩
def kN (v : MV) (R : Int → Prop) : Prop := ∃ j, v = .int j ∧ -4611686018427387904 ≤ j ∧ j < 4611686018427387904 ∧ R j
theorem kN_int {j : Int} {P : Int → Prop} (b : -4611686018427387904 ≤ j ∧ j < 4611686018427387904) (q : P j) : kN (.int j) P := ⟨j, rfl, b.1, b.2, q⟩
theorem wi_rng1 {P : MI → MH → Prop} (w : We (e s h) fun v h1 => kN v fun j => P (.vals (rngM 0 j.toNat)) h1) : Wi (iRange1 e s h) P := by
  obtain ⟨v, h1, e1, j, rfl, j0, j1, q⟩ := w; exact ⟨_, _, rng1_at e1 ⟨j0, j1⟩, q⟩
theorem wi_rng2 {P : MI → MH → Prop} (w : We (e s h) fun v h1 => kN v fun i => We (o s h1) fun v2 h2 => kN v2 fun j => P (.vals (rngM i (j - i).toNat)) h2) : Wi (iRange2 e o s h) P := by
  obtain ⟨v, h1, e1, i, rfl, i0, i1, v2, h2, e2, j, rfl, j0, j1, q⟩ := w
  have q2 : (-(2 ^ 62) ≤ i ∧ i < 2 ^ 62 ∧ -(2 ^ 62) ≤ j ∧ j < 2 ^ 62) := by omega
  refine ⟨_, _, ?_, q⟩
  simp only [iRange2, e1, e2]
  rw [if_pos q2]
def kE (v : MV) (R : List MV → Prop) : Prop := ∃ xs, v = .tup xs ∧ R xs
theorem kE_tup {xs : List MV} {P : List MV → Prop} (q : P xs) : kE (.tup xs) P := ⟨xs, rfl, q⟩
theorem wi_enumT {P : MI → MH → Prop} (w : We (e s h) fun v h1 => kE v fun xs => P (.vals (enumM 0 xs)) h1) : Wi (iEnumT e s h) P := by
  obtain ⟨v, h1, e1, xs, rfl, q⟩ := w; exact ⟨_, _, by simp only [iEnumT, e1], q⟩
def kL (v : MV) (R : List MV → Prop) : Prop := ∃ xs, v = .lst xs ∧ R xs
theorem kL_lst {xs : List MV} {P : List MV → Prop} (q : P xs) : kL (.lst xs) P := ⟨xs, rfl, q⟩
theorem wi_enumL {P : MI → MH → Prop} (w : We (e s h) fun v h1 => kL v fun xs => P (.vals (enumM 0 xs)) h1) : Wi (iEnumL e s h) P := by
  obtain ⟨v, h1, e1, xs, rfl, q⟩ := w; exact ⟨_, _, by simp only [iEnumL, e1], q⟩
theorem wi_zipL {P : MI → MH → Prop} (w : We (e s h) fun v h1 => kL v fun xs => We (o s h1) fun v2 h2 => kL v2 fun ys => xs.length = ys.length ∧ P (.vals (zipM xs ys)) h2) : Wi (iZipL e o s h) P := by
  obtain ⟨v, h1, e1, xs, rfl, v2, h2, e2, ys, rfl, hl, q⟩ := w
  refine ⟨_, _, ?_, q⟩
  simp only [iZipL, e1, e2]
  rw [if_pos hl]
def kRv (v : MV) (R : List MV → Prop) : Prop := ∃ xs, revV v = some xs ∧ R xs
theorem kRv_lst {xs : List MV} {P : List MV → Prop} (q : P xs) : kRv (.lst xs) P := ⟨xs, rfl, q⟩
theorem kRv_tup {xs : List MV} {P : List MV → Prop} (q : P xs) : kRv (.tup xs) P := ⟨xs, rfl, q⟩
theorem kRv_row {xs : List MV} {P : List MV → Prop} (q : P xs) : kRv (.row xs) P := ⟨xs, rfl, q⟩
theorem wi_rev {P : MI → MH → Prop} (w : We (e s h) fun v h1 => kRv v fun xs => P (.vals xs.reverse) h1) : Wi (iRev e s h) P := by
  obtain ⟨v, h1, e1, xs, e2, q⟩ := w; exact ⟨_, _, by simp only [iRev, e1, e2], q⟩
def kF (m : MI) (g : XG) (b : XS) (s : SM) (h : MH) (Q : Fl → SM → MH → Prop) : Prop := match m with
  | .vals xs => Wp (forGo g b xs s h) Q
  | .cell n => Wp (fuel fun t => forCell g b n t 0 s h) Q
theorem kF_vals {g : XG} {xs : List MV} (w : Wp (forGo g b xs s h) Q) : kF (.vals xs) g b s h Q := w
theorem kF_cell {g : XG} {n : Nat} (w : Wp (fuel fun t => forCell g b n t 0 s h) Q) : kF (.cell n) g b s h Q := w
theorem wp_for {it : XI} {g : XG} (w : Wi (it s h) fun m h1 => kF m g b s h1 Q) : Wp (sFor it g b s h) Q := by
  obtain ⟨m, h1, e1, q⟩ := w
  cases m with
  | vals xs => obtain ⟨f, s2, h2, e2, q⟩ := q; exact ⟨f, s2, h2, by simp only [sFor, e1, e2], q⟩
  | cell n => obtain ⟨f, s2, h2, e2, q⟩ := q; exact ⟨f, s2, h2, by simp only [sFor, e1, e2], q⟩
def kC (m : MI) (g : XG) (c : XT) (e : XE) (s : SM) (h : MH) (R : MV → MH → Prop) : Prop := match m with
  | .vals xs => Wa (lcGo g c e [] xs s h) fun ys h2 => R (.lst ys) h2
  | .cell n => Wa (fuel fun t => lcCell g c e n t 0 [] s h) fun ys h2 => R (.lst ys) h2
theorem kC_vals {g : XG} {xs : List MV} (w : Wa (lcGo g c e [] xs s h) fun ys h2 => R (.lst ys) h2) : kC (.vals xs) g c e s h R := w
theorem kC_cell {g : XG} {n : Nat} (w : Wa (fuel fun t => lcCell g c e n t 0 [] s h) fun ys h2 => R (.lst ys) h2) : kC (.cell n) g c e s h R := w
theorem we_lc {it : XI} {g : XG} {own : List Nat} (w : Wi (it s h) fun m h1 => kC m g c e (wipeM s own) h1 R) : We (xLc it g c e own s h) R := by
  obtain ⟨m, h1, e1, q⟩ := w
  cases m with
  | vals xs => obtain ⟨ys, h2, e2, q⟩ := q; exact ⟨_, h2, by simp only [xLc, e1, e2], q⟩
  | cell n => obtain ⟨ys, h2, e2, q⟩ := q; exact ⟨_, h2, by simp only [xLc, e1, e2], q⟩
theorem we_lc' {it : XI} {g : XG} {own : List Nat} {s2 : SM} (es : wipeM s own = s2) (w : Wi (it s h) fun m h1 => kC m g c e s2 h1 R) : We (xLc it g c e own s h) R := we_lc (es ▸ w)
/-- a comprehension over what some things stand for -/
theorem wlc {α : Type} {g : XG} {P : List MV → MH → Prop} (t : α → MV) (p : α → Bool) (f : α → MV) (xs : List α) {vs : List MV} (ev : vs = xs.map t) (hz : xs.length ≤ 16777216)
    (step : ∀ x ∈ xs, Wg (g (t x) s h) fun s1 h1 => Wt (c s1 h1) fun k h2 => k = p x ∧ h2 = h ∧ (h1 = h → p x = true → We (e s1 h) fun v h3 => v = f x ∧ h3 = h) ∧ h1 = h) (q : P ((xs.filter p).map f) h) : Wa (lcGo g c e [] vs s h) P := by
  subst ev
  have := lcGo_gen (g := g) (c := c) (e := e) (s := s) (h := h) t p f xs [] (by simpa [szLine] using hz) fun x hx => by
    obtain ⟨s1, h1, e1, k, h2, e2, rfl, rfl, st, rfl⟩ := step x hx
    refine ⟨s1, e1, e2, fun hp => ?_⟩
    obtain ⟨v, h3, e3, rfl, rfl⟩ := st rfl hp
    exact e3
  exact ⟨_, _, this, by rw [List.nil_append]; exact q⟩
/-! ### slices -/
theorem wo_none {P : Option Int → MH → Prop} (q : P none h) : Wo (xNoPart s h) P := ⟨_, _, rfl, q⟩
def kP (v : MV) (P : Int → Prop) : Prop := ∃ i, v = .int i ∧ P i
theorem kP_int {i : Int} {P : Int → Prop} (q : P i) : kP (.int i) P := ⟨i, rfl, q⟩
theorem wo_part {P : Option Int → MH → Prop} (w : We (e s h) fun v h1 => kP v fun i => P (some i) h1) : Wo (xPart e s h) P := by
  obtain ⟨v, h1, e1, i, rfl, q⟩ := w; exact ⟨_, _, by simp only [xPart, e1], q⟩
theorem we_slL {lo hi : XO} (w : We (e s h) fun v h1 => Wo (lo s h1) fun l h2 => Wo (hi s h2) fun u h3 => ∃ xs, listOf h3 v = some xs ∧ R (.lst (cutM xs l u)) h3) : We (xSlL e lo hi s h) R := by
  obtain ⟨v, h1, e1, l, h2, e2, u, h3, e3, xs, e4, q⟩ := w; exact ⟨_, _, by simp only [xSlL, e1, e2, e3, e4], q⟩
/-! ### methods -/
theorem we_append (w : We (o s h) fun d h1 => ∃ n ys, d = .ref n ∧ h1[n]? = some (.lst ys) ∧ We (e s h1) fun v h2 => ∃ xs, h2[n]? = some (.lst xs) ∧ xs.length < 16777216 ∧ R .non (h2.set n (.lst (xs ++ [v])))) : We (xAppend o e s h) R := by
  obtain ⟨d, h1, e1, n, ys, rfl, e2, v, h2, e3, xs, e4, z, q⟩ := w
  exact ⟨_, _, append_at e1 e2 e3 e4 (by unfold szLine; exact z), q⟩
theorem we_extend (w : We (o s h) fun d h1 => ∃ n ys, d = .ref n ∧ h1[n]? = some (.lst ys) ∧ We (e s h1) fun v h2 => ∃ xs zs, v = .lst zs ∧ h2[n]? = some (.lst xs) ∧ xs.length + zs.length ≤ 16777216 ∧ R .non (h2.set n (.lst (xs ++ zs)))) : We (xExtend o e s h) R := by
  obtain ⟨d, h1, e1, n, ys, rfl, e2, v, h2, e3, xs, zs, rfl, e4, z, q⟩ := w
  exact ⟨_, _, extend_at e1 e2 e3 e4 (by unfold szLine; exact z), q⟩
/-! ### defs -/
def kR (f : Fl) (R : MV → Prop) : Prop := (f = .nx ∧ R .non) ∨ ∃ v, f = .rt v ∧ R v
theorem kR_rt {v : MV} {P : MV → Prop} (q : P v) : kR (.rt v) P := .inr ⟨v, rfl, q⟩
theorem kR_nx {P : MV → Prop} (q : P .non) : kR .nx P := .inl ⟨rfl, q⟩
theorem we_def {n : Nat} {vs : List MV} (w : Wp (b (sBegin n vs) h) fun f _ h1 => kR f fun v => R v h1) : We (runDef n b vs h) R := by
  obtain ⟨f, s1, h1, e1, ⟨rfl, q⟩ | ⟨v, rfl, q⟩⟩ := w
  · exact ⟨_, _, run_nx e1, q⟩
  · exact ⟨_, _, run_rt e1, q⟩
/-! ### loops -/
theorem wfor {g : XG} (I : Nat → SM → MH → Prop) {xs : List MV} (h0 : I 0 s h)
    (step : ∀ i x s h, xs[i]? = some x → I i s h → Wg (g x s h) fun s1 h1 => Wp (b s1 h1) fun f s2 h2 => ((f = .nx ∨ f = .ct) ∧ I (i + 1) s2 h2))
    (fin : ∀ s h, I xs.length s h → Q .nx s h) : Wp (forGo g b xs s h) Q := by
  obtain ⟨s', h', e, i⟩ := forGo_run (g := g) (b := b) I xs 0 s h h0 fun i x s h ex hi => by
    rw [Nat.zero_add] at hi ⊢
    obtain ⟨s1, h1, e1, f, s2, h2, e2, c, i2⟩ := step i x s h ex hi
    exact ⟨s1, h1, f, s2, h2, e1, e2, c, i2⟩
  rw [Nat.zero_add] at i
  exact ⟨_, _, _, e, fin _ _ i⟩
theorem wforR {g : XG} (I : Nat → SM → MH → Prop) {xs : List MV} (h0 : I 0 s h)
    (step : ∀ i x s h, xs[i]? = some x → I i s h → Wg (g x s h) fun s1 h1 => Wp (b s1 h1) fun f s2 h2 => (((f = .nx ∨ f = .ct) ∧ I (i + 1) s2 h2) ∨ (f = .bk ∧ Q .nx s2 h2) ∨ ∃ v, f = .rt v ∧ Q (.rt v) s2 h2))
    (fin : ∀ s h, I xs.length s h → Q .nx s h) : Wp (forGo g b xs s h) Q := by
  obtain ⟨f, s', h', e, i⟩ := forGo_ret (g := g) (b := b) I Q xs 0 s h h0 (fun s h i => by rw [Nat.zero_add] at i; exact fin s h i) fun i x s h ex hi => by
    rw [Nat.zero_add] at hi ⊢
    obtain ⟨s1, h1, e1, f, s2, h2, e2, c⟩ := step i x s h ex hi
    exact ⟨s1, h1, f, s2, h2, e1, e2, c⟩
  exact ⟨_, _, _, e, i⟩
theorem wwhileN (I : Nat → SM → MH → Prop) (n : Nat) (h0 : I n s h)
    (step : ∀ n s h, I n s h → Wt (c s h) fun k h1 => kB k (Wp (b s h1) fun f s2 h2 => (f = .nx ∨ f = .ct) ∧ ∃ m, m < n ∧ I m s2 h2) (Q .nx s h1)) : Wp (sWhile c b s h) Q := by
  have key : ∀ (k : Nat) (n : Nat) (s : SM) (h : MH), n < k → I n s h → ∃ n s' h', whileGo c b n s h = some (.nx, s', h') ∧ Q .nx s' h' := fun k => by
    induction k with
    | zero => exact fun n s h hk => absurd hk (Nat.not_lt_zero _)
    | succ k ih =>
      intro n s h hk hi
      obtain ⟨t, h1, e1, q⟩ := step n s h hi
      cases t with
      | false => exact ⟨1, s, h1, by simp only [whileGo, e1], q⟩
      | true =>
        obtain ⟨f, s2, h2, e2, hf, m, hm, i2⟩ := q
        obtain ⟨N, s', h', e3, q⟩ := ih m s2 h2 (by omega) i2
        refine ⟨N + 1, s', h', ?_, q⟩
        rcases hf with rfl | rfl <;> simp only [whileGo, e1, e2, e3]
  obtain ⟨N, s', h', e, q⟩ := key (n + 1) n s h (Nat.lt_succ_self _) h0
  exact ⟨_, _, _, fuel_of (f := fun n => whileGo c b n s h) (fun n r e => whileGo_mono n s h r e) e, q⟩
end
/-! ### operations -/
section
variable {h : MH} {R : MV → Prop} {i j : Int} {a b : Bool} {xs ys : List MV}
theorem wv_add (q : R (.int (i + j))) : Wv (opAdd h (.int i) (.int j)) R := ⟨_, rfl, q⟩
theorem wv_sub (q : R (.int (i - j))) : Wv (opSub h (.int i) (.int j)) R := ⟨_, rfl, q⟩
theorem wv_neg (q : R (.int (-i))) : Wv (opNeg h (.int i)) R := ⟨_, rfl, q⟩
theorem wv_lt (q : R (.bl (decide (i < j)))) : Wv (opLt h (.int i) (.int j)) R := ⟨_, rfl, q⟩
theorem wv_le (q : R (.bl (decide (i ≤ j)))) : Wv (opLe h (.int i) (.int j)) R := ⟨_, rfl, q⟩
theorem wv_gt (q : R (.bl (decide (j < i)))) : Wv (opGt h (.int i) (.int j)) R := ⟨_, rfl, q⟩
theorem wv_ge (q : R (.bl (decide (j ≤ i)))) : Wv (opGe h (.int i) (.int j)) R := ⟨_, rfl, q⟩
theorem wv_mod (c : 0 < j) (q : R (.int (i % j))) : Wv (opMod h (.int i) (.int j)) R := ⟨_, mod_ok c, q⟩
theorem wv_div (c : 0 < j) (c2 : j < 1606938044258990275541962092341162602522202993782792835301376) (q : R (.int (i / j))) : Wv (opDiv h (.int i) (.int j)) R := ⟨_, div_ok c c2, q⟩
theorem wv_eqii (q : R (.bl (decide (i = j)))) : Wv (opEq h (.int i) (.int j)) R := ⟨_, by rw [eq_ii]; congr 2, q⟩
theorem wv_neii (q : R (.bl (!decide (i = j)))) : Wv (opNe h (.int i) (.int j)) R := ⟨_, by rw [ne_ii]; congr 2, q⟩
theorem wv_isbl (q : R (.bl (decide (a = b)))) : Wv (opIsBl h (.bl a) (.bl b)) R := ⟨_, rfl, q⟩
theorem wv_notbl (q : R (.bl (!decide (a = b)))) : Wv (opNotBl h (.bl a) (.bl b)) R := ⟨_, rfl, q⟩
theorem wv_lenL (q : R (.int xs.length)) : Wv (fLen h [.lst xs]) R := ⟨_, rfl, q⟩
theorem wv_lenT (q : R (.int xs.length)) : Wv (fLen h [.tup xs]) R := ⟨_, rfl, q⟩
theorem wv_lenR (q : R (.int xs.length)) : Wv (fLen h [.row xs]) R := ⟨_, rfl, q⟩
theorem wv_lenK {kvs : List (MK × MV)} (q : R (.int kvs.length)) : Wv (fLen h [.dK kvs]) R := ⟨_, len_dK, q⟩
theorem wv_abs (q : R (.int (if i < 0 then -i else i))) : Wv (fAbs h [.int i]) R := ⟨_, rfl, q⟩
theorem wv_max (q : R (.int (if j > i then j else i))) : Wv (fMax2 h [.int i, .int j]) R := ⟨_, rfl, q⟩
theorem wv_min (q : R (.int (if j < i then j else i))) : Wv (fMin2 h [.int i, .int j]) R := ⟨_, rfl, q⟩
theorem wv_listL (q : R (.lst xs)) : Wv (fList h [.lst xs]) R := ⟨_, rfl, q⟩
theorem wv_listT (q : R (.lst xs)) : Wv (fList h [.tup xs]) R := ⟨_, rfl, q⟩
theorem wv_listR (q : R (.lst xs)) : Wv (fList h [.row xs]) R := ⟨_, rfl, q⟩
theorem wv_tupL (q : R (.row xs)) : Wv (fTuple h [.lst xs]) R := ⟨_, rfl, q⟩
theorem wv_tupT (q : R (.tup xs)) : Wv (fTuple h [.tup xs]) R := ⟨_, rfl, q⟩
theorem wv_tupR (q : R (.row xs)) : Wv (fTuple h [.row xs]) R := ⟨_, rfl, q⟩
theorem wv_ixL (w : Wv (atM xs i) R) : Wv (opIx h (.lst xs) (.int i)) R := w
theorem wv_ixT (w : Wv (atM xs i) R) : Wv (opIx h (.tup xs) (.int i)) R := w
theorem wv_ixR (w : Wv (atM xs i) R) : Wv (opIx h (.row xs) (.int i)) R := w
theorem wv_at0 {x : MV} (q : R x) : Wv (atM (x :: xs) 0) R := ⟨_, at_0, q⟩
theorem wv_at1 {x y : MV} (q : R y) : Wv (atM (x :: y :: xs) 1) R := ⟨_, at_1, q⟩
theorem wv_at2 {x y z : MV} (q : R z) : Wv (atM (x :: y :: z :: xs) 2) R := ⟨_, at_2, q⟩
theorem wv_ixP0 {p : Int × Int} (q : R (.int p.1)) : Wv (opIx h (pairV p) (.int 0)) R := ⟨_, rfl, q⟩
theorem wv_ixP1 {p : Int × Int} (q : R (.int p.2)) : Wv (opIx h (pairV p) (.int 1)) R := ⟨_, rfl, q⟩
theorem wv_revL (q : R (.lst xs.reverse)) : Wv (opRevLst h (.lst xs)) R := ⟨_, rfl, q⟩
theorem wv_pick {α : Type} {f : α → MV} {xs : List α} (hn : 0 ≤ i) (hx : xs ≠ []) (q : ∀ x ∈ xs, R (f x)) : Wv (atM (xs.map f) (i % (((xs.map f).length : Nat) : Int))) R := by
  obtain ⟨x, hm, e⟩ := pick (f := f) hn hx
  rw [List.length_map]
  exact ⟨_, e, q x hm⟩
theorem wv_inL {r : List Int} (q : R (.bl (decide (i ∈ r)))) : Wv (opIn h (.int i) (.lst (r.map .int))) R := ⟨_, in_lst _ _ _, q⟩
theorem wv_inT {r : List Int} (q : R (.bl (decide (i ∈ r)))) : Wv (opIn h (.int i) (.tup (r.map .int))) R := ⟨_, in_tup _ _ _, q⟩
theorem wv_inR {r : List Int} (q : R (.bl (decide (i ∈ r)))) : Wv (opIn h (.int i) (.row (r.map .int))) R := ⟨_, in_row _ _ _, q⟩
theorem wv_ninL {r : List Int} (q : R (.bl (!decide (i ∈ r)))) : Wv (opNotIn h (.int i) (.lst (r.map .int))) R := ⟨_, notin_lst _ _ _, q⟩
theorem wv_ninT {r : List Int} (q : R (.bl (!decide (i ∈ r)))) : Wv (opNotIn h (.int i) (.tup (r.map .int))) R := ⟨_, notin_tup _ _ _, q⟩
theorem wv_ninR {r : List Int} (q : R (.bl (!decide (i ∈ r)))) : Wv (opNotIn h (.int i) (.row (r.map .int))) R := ⟨_, notin_row _ _ _, q⟩
theorem wv_inW {W : WL} (q : R (.bl (decide (i ∈ keysOf' W)))) : Wv (opIn h (.int i) (.dK (websV W))) R := ⟨_, in_webs _ _ _, q⟩
theorem wv_ninW {W : WL} (q : R (.bl (!decide (i ∈ keysOf' W)))) : Wv (opNotIn h (.int i) (.dK (websV W))) R := ⟨_, notin_webs _ _ _, q⟩
theorem wv_keysSW {W : WL} (q : R (.lst ((sortI (keysOf' W)).map .int))) : Wv (fKeysS h (.dK (websV W))) R := ⟨_, keysS_webs _ _, q⟩
theorem wv_keysTW {W : WL} (q : R (.tup ((keysOf' W).map .int))) : Wv (fKeysT h (.dK (websV W))) R := ⟨_, keysT_webs _ _, q⟩
theorem wv_keysLW {W : WL} (q : R (.lst ((keysOf' W).map .int))) : Wv (fKeys h (.dK (websV W))) R := ⟨_, keysL_webs _ _, q⟩
theorem wv_sortL {r : List Int} (q : R (.lst ((sortI r).map .int))) : Wv (fSorted h [.lst (r.map .int)]) R := ⟨_, sorted_lst _ _, q⟩
theorem wv_sortT {r : List Int} (q : R (.lst ((sortI r).map .int))) : Wv (fSorted h [.tup (r.map .int)]) R := ⟨_, sorted_tup _ _, q⟩
theorem wv_sortR {r : List Int} (q : R (.lst ((sortI r).map .int))) : Wv (fSorted h [.row (r.map .int)]) R := ⟨_, sorted_tup h r, q⟩
theorem wv_sortP {L : List (Int × Int)} (q : R (.lst ((sortP L).map pairV))) : Wv (fSorted h [.lst (L.map pairV)]) R := ⟨_, sorted_pairs _ _, q⟩
theorem wv_neP {L M : List (Int × Int)} (q : R (.bl (!decide (L = M)))) : Wv (opNe h (.lst (L.map pairV)) (.lst (M.map pairV))) R := ⟨_, ne_pairs _ _, q⟩
theorem wv_isN {v : MV} (q : R (.bl (match v with | .non => true | _ => false))) : Wv (opIsNon h v .non) R := ⟨_, rfl, q⟩
theorem wv_notN {v : MV} (q : R (.bl (match v with | .non => false | _ => true))) : Wv (opNotNon h v .non) R := ⟨_, rfl, q⟩
theorem wv_isi {v : MV} {t a : String} {k : Bool} (e : tyN h v = some a) (e2 : subTy a t = k) (q : R (.bl k)) : Wv (fIsi t h [v]) R := ⟨_, by simp only [fIsi, e, e2], q⟩
theorem wv_cat {zs : List MV} {x y : MV} (e1 : lstC h x = some xs) (e2 : lstC h y = some ys) (hz : xs.length + ys.length ≤ 16777216) (ez : xs ++ ys = zs) (q : R (.lst zs)) : Wv (opCat h x y) R := ⟨_, by
  have : xs.length + ys.length ≤ szLine := by unfold szLine; exact hz
  simp only [opCat, e1, e2, this, if_true, ez], q⟩
end
end Ew
end

section
set_option linter.all false
set_option maxRecDepth 100000
/-! EwSC: more plain operations. -/
namespace Ew
open PySem (Str)
/-- int(x), x a truth or a number -/
def fInt (_ : MH) : List MV → Option MV
  | [.int i] => some (.int i)
  | [.bl b] => some (.int (if b then 1 else 0))
  | _ => none
/-- xs.count(k), a list of ints -/
def opCount (_ : MH) (d y : MV) : Option MV := match lstV d, y with
  | some xs, .int k => (intsOf xs).map fun ns => .int (ns.count k : Nat)
  | _, _ => none
section
variable {h : MH} {R : MV → Prop}
theorem wv_intB {b : Bool} (q : R (.int (if b then 1 else 0))) : Wv (fInt h [.bl b]) R := ⟨_, rfl, q⟩
theorem wv_intI {i : Int} (q : R (.int i)) : Wv (fInt h [.int i]) R := ⟨_, rfl, q⟩
theorem wv_countL {r : List Int} {k : Int} (q : R (.int (r.count k : Nat))) : Wv (opCount h (.lst (r.map .int)) (.int k)) R := ⟨_, by simp only [opCount, lstV, ints_of_map, Option.map_some], q⟩
end
/-! ### a def called with what its arguments' cells tell -/
mutual
def peekM (h : MH) : MV → Option MV
  | .ref n => match h[n]? with
    | some (.lst xs) => if plainL xs = true then some (.lst xs) else none
    | some (.dK kvs) => if plainK kvs = true then some (.dK kvs) else none
    | some (.dT kvs) => if plainT kvs = true then some (.dT kvs) else none
    | _ => none
  | .tup xs => match peekMs h xs with
    | some ys => some (.tup ys)
    | none => none
  | v => if plainV v = true then some v else none
def peekMs (h : MH) : List MV → Option (List MV)
  | [] => some []
  | x :: xs => match peekM h x, peekMs h xs with
    | some y, some ys => some (y :: ys)
    | _, _ => none
end
/-! ### sorted(d.keys()) of a dict with pairs as keys; sorted(set(l)) of a list -/
end Ew
end

section
set_option Elab.async false
set_option linter.all false
set_option maxRecDepth 100000
set_option maxHeartbeats 4000000
/-! EwCB: the bridge of EwSC. -/
namespace Ew
open PySem PySem.Spec PyProof.Rows L2
variable [Tabs]
section
variable {K : PySem.W.Frag} {X : Cx} {e a b c o i : Expr} {m ma mb mc mo mi : XE} {pos p p2 q : Pos} {es : List Expr} {mas : XA}
/-! ### chains -/
section
variable {v : MV}
end
/-! ### len(set(t)) -/
/-! ### xs.count(k) -/
/-! ### xs.remove(k) -/
theorem VRs.rep {r w : List Addr} {H : Hp} {xs : List MV} {us : List V} (q : VRs K r w H xs us) : ∀ n : Nat, VRs K r w H (List.replicate n xs).flatten (List.replicate n us).flatten
  | 0 => by simp [VRs]
  | n + 1 => by rw [List.replicate_succ, List.replicate_succ, List.flatten_cons, List.flatten_cons]; exact VRs.append q (VRs.rep q n)
end
end Ew
end

section
set_option linter.all false
set_option maxRecDepth 100000
/-! EwXS: the small machine where something may be raised: classes of exceptions are numbers. -/
namespace Ew
open PySem (Str)
/-- how a text ends: as usual, or by an exception of the class c -/
inductive OX where
  | ok (f : Fl) (s : SM) | ex (c : Nat) (s : SM)
/-- what a def that may raise answers -/
inductive RX where
  | val (v : MV) | ex (c : Nat)
abbrev FnX := List MV → MH → Option (RX × MH)
abbrev XSX := SM → MH → Option (OX × MH)
def liftX (m : XS) : XSX := fun s h => match m s h with
  | some (f, s', h') => some (.ok f s', h')
  | none => none
def seqX (a b : XSX) : XSX := fun s h => match a s h with
  | some (.ok .nx s1, h1) => b s1 h1
  | r => r
def ifX (c : XT) (a b : XSX) : XSX := fun s h => match c s h with
  | none => none
  | some (true, h1) => a s h1
  | some (false, h1) => b s h1
def raiseX (c : Nat) : XSX := fun s h => some (.ex c s, h)
/-- return g(..) -/
def retX (g : FnX) (a : XA) : XSX := fun s h => match a s h with
  | none => none
  | some (xs, h1) => match g xs h1 with
    | none => none
    | some (.val v, h2) => some (.ok (.rt v) s, h2)
    | some (.ex c, h2) => some (.ex c s, h2)
/-- x = g(..) -/
def asgX (t : XG) (g : FnX) (a : XA) : XSX := fun s h => match a s h with
  | none => none
  | some (xs, h1) => match g xs h1 with
    | none => none
    | some (.val v, h2) => match t v s h2 with
      | some (s', h3) => some (.ok .nx s', h3)
      | none => none
    | some (.ex c, h2) => some (.ex c s, h2)
/-- g(..) -/
def exprX (g : FnX) (a : XA) : XSX := fun s h => match a s h with
  | none => none
  | some (xs, h1) => match g xs h1 with
    | none => none
    | some (.val _, h2) => some (.ok .nx s, h2)
    | some (.ex c, h2) => some (.ex c s, h2)
def runDefX (n : Nat) (b : XSX) : FnX := fun vs h => match b (sBegin n vs) h with
  | some (.ok (.rt v) _, h1) => some (.val v, h1)
  | some (.ok .nx _, h1) => some (.val .non, h1)
  | some (.ex c _, h1) => some (.ex c, h1)
  | _ => none
/-- a def that does not raise here -/
def okX (g : FnX) : Fn := fun vs h => match g vs h with
  | some (.val v, h1) => some (v, h1)
  | _ => none
/-- .. told by what it hands back -/
noncomputable def toldX (g : FnX) : FnX := fun args h => match toldA (okX g) args h with
  | some (v, h') => some (.val v, h')
  | none => match g args h with
    | some (.ex c, h2) => some (.ex c, h2)
    | _ => none
/-- the clauses: the first whose class holds -/
def catchX (sub : Nat → Nat → Bool) (c : Nat) : List (Nat × XS) → XS
  | [] => fun _ _ => none
  | (d, b) :: r => if sub c d then b else catchX sub c r
def sTry (n : Nat) (sub : Nat → Nat → Bool) (b : XSX) (hs : List (Nat × XS)) : XS := fun s h => match b s h with
  | some (.ok f s', h') => some (f, s', h')
  | some (.ex c s', h') => if c < n then catchX sub c hs s' h' else none
  | none => none
/-- try: b / except C as e: x = [isinstance(e, ..), ..]; e's slot i, x's slot j -/
def sTryAs (n : Nat) (sub : Nat → Nat → Bool) (b : XSX) (d i : Nat) (qs : List (Nat → Bool)) (j : Nat) : XS := fun s h => match b s h with
  | some (.ok f s', h') => some (f, s', h')
  | some (.ex c s', h') => if c < n ∧ sub c d = true ∧ i < s'.length ∧ j < s'.length then some (.nx, (s'.set i none).set j (some (.lst (qs.map fun q => .bl (q c)))), h') else none
  | none => none
/-! ### what a run ends with -/
def Wx (o : Option (OX × MH)) (Q : OX → MH → Prop) : Prop := ∃ f h, o = some (f, h) ∧ Q f h
def Wr (o : Option (RX × MH)) (Q : RX → MH → Prop) : Prop := ∃ f h, o = some (f, h) ∧ Q f h
theorem wr_of {o : Option (RX × MH)} {f : RX} {h : MH} {Q : RX → MH → Prop} (e : o = some (f, h)) (q : Q f h) : Wr o Q := ⟨_, _, e, q⟩
theorem wr_eq {o : Option (RX × MH)} {v : RX} {h : MH} (w : Wr o fun v' h' => v' = v ∧ h' = h) : o = some (v, h) := by
  obtain ⟨f, s, e, rfl, rfl⟩ := w; exact e
/-- what comes behind a statement -/
def kX (b : XSX) (Q : OX → MH → Prop) (o : OX) (h : MH) : Prop := match o with
  | .ok .nx s => Wx (b s h) Q
  | o => Q o h
section
variable {a b : XSX} {m : XS} {s : SM} {h : MH} {Q : OX → MH → Prop} {c : XT} {g : FnX} {r : XA}
theorem kX_nx (w : Wx (b s h) Q) : kX b Q (.ok .nx s) h := w
theorem kX_rt {v : MV} (w : Q (.ok (.rt v) s) h) : kX b Q (.ok (.rt v) s) h := w
theorem kX_ex {k : Nat} (w : Q (.ex k s) h) : kX b Q (.ex k s) h := w
theorem wx_seq (w : Wx (a s h) (kX b Q)) : Wx (seqX a b s h) Q := by
  obtain ⟨o, h1, e, q⟩ := w
  cases o with
  | ok f s1 =>
    cases f with
    | nx => obtain ⟨f2, h2, e2, q2⟩ := q; exact ⟨f2, h2, by simp only [seqX, e, e2], q2⟩
    | rt v => exact ⟨_, _, by simp only [seqX, e], q⟩
    | bk => exact ⟨_, _, by simp only [seqX, e], q⟩
    | ct => exact ⟨_, _, by simp only [seqX, e], q⟩
  | ex k s1 => exact ⟨_, _, by simp only [seqX, e], q⟩
theorem wx_lift (w : Wp (m s h) fun f s1 h1 => Q (.ok f s1) h1) : Wx (liftX m s h) Q := by
  obtain ⟨f, s1, h1, e, q⟩ := w; exact ⟨_, _, by simp only [liftX, e], q⟩
theorem wx_if (w : Wt (c s h) fun k h1 => kB k (Wx (a s h1) Q) (Wx (b s h1) Q)) : Wx (ifX c a b s h) Q := by
  obtain ⟨v, h1, e1, q⟩ := w
  cases v with
  | true => obtain ⟨f2, h2, e2, q2⟩ := q; exact ⟨f2, h2, by simp only [ifX, e1, e2], q2⟩
  | false => obtain ⟨f2, h2, e2, q2⟩ := q; exact ⟨f2, h2, by simp only [ifX, e1, e2], q2⟩
theorem wx_raise {k : Nat} (q : Q (.ex k s) h) : Wx (raiseX k s h) Q := ⟨_, _, rfl, q⟩
/-- what a call that may raise gives -/
def kV2 (f : MV → MH → Prop) (e : Nat → MH → Prop) (o : RX) (h : MH) : Prop := match o with
  | .val v => f v h
  | .ex c => e c h
theorem kV2_val {f : MV → MH → Prop} {e : Nat → MH → Prop} {v : MV} (q : f v h) : kV2 f e (.val v) h := q
theorem kV2_ex {f : MV → MH → Prop} {e : Nat → MH → Prop} {k : Nat} (q : e k h) : kV2 f e (.ex k) h := q
theorem wp_tryAs {n : Nat} {sub : Nat → Nat → Bool} {d i j : Nat} {qs : List (Nat → Bool)} {P : Fl → SM → MH → Prop} (w : Wx (b s h) fun o h1 => match o with
    | .ok f s1 => P f s1 h1
    | .ex c s1 => c < n ∧ sub c d = true ∧ i < s1.length ∧ j < s1.length ∧ P .nx ((s1.set i none).set j (some (.lst (qs.map fun q => .bl (q c))))) h1) : Wp (sTryAs n sub b d i qs j s h) P := by
  obtain ⟨o, h1, e, q⟩ := w
  cases o with
  | ok f s1 => exact ⟨_, _, _, by simp only [sTryAs, e], q⟩
  | ex c s1 =>
    obtain ⟨q1, q2, q3, q4, q5⟩ := q
    exact ⟨_, _, _, by simp only [sTryAs, e, q1, q2, q3, q4, and_self, if_true], q5⟩
theorem wx_ret (w : Wa (r s h) fun xs h1 => Wr (g xs h1) (kV2 (fun v h2 => Q (.ok (.rt v) s) h2) fun k h2 => Q (.ex k s) h2)) : Wx (retX g r s h) Q := by
  obtain ⟨xs, h1, e1, o, h2, e2, q⟩ := w
  cases o with
  | val v => exact ⟨_, _, by simp only [retX, e1, e2], q⟩
  | ex k => exact ⟨_, _, by simp only [retX, e1, e2], q⟩
theorem wx_asg {t : XG} (w : Wa (r s h) fun xs h1 => Wr (g xs h1) (kV2 (fun v h2 => Wg (t v s h2) fun s' h3 => Q (.ok .nx s') h3) fun k h2 => Q (.ex k s) h2)) : Wx (asgX t g r s h) Q := by
  obtain ⟨xs, h1, e1, o, h2, e2, q⟩ := w
  cases o with
  | val v => obtain ⟨s', h3, e3, q⟩ := q; exact ⟨_, _, by simp only [asgX, e1, e2, e3], q⟩
  | ex k => exact ⟨_, _, by simp only [asgX, e1, e2], q⟩
theorem wx_expr (w : Wa (r s h) fun xs h1 => Wr (g xs h1) (kV2 (fun _ h2 => Q (.ok .nx s) h2) fun k h2 => Q (.ex k s) h2)) : Wx (exprX g r s h) Q := by
  obtain ⟨xs, h1, e1, o, h2, e2, q⟩ := w
  cases o with
  | val v => exact ⟨_, _, by simp only [exprX, e1, e2], q⟩
  | ex k => exact ⟨_, _, by simp only [exprX, e1, e2], q⟩
/-- what a def ends with -/
def kRX (R : RX → MH → Prop) (o : OX) (h : MH) : Prop := match o with
  | .ok (.rt v) _ => R (.val v) h
  | .ok .nx _ => R (.val .non) h
  | .ex c _ => R (.ex c) h
  | _ => False
theorem kRX_rt {R : RX → MH → Prop} {v : MV} (q : R (.val v) h) : kRX R (.ok (.rt v) s) h := q
theorem kRX_nx {R : RX → MH → Prop} (q : R (.val .non) h) : kRX R (.ok .nx s) h := q
theorem kRX_ex {R : RX → MH → Prop} {k : Nat} (q : R (.ex k) h) : kRX R (.ex k s) h := q
theorem wr_def {n : Nat} {vs : List MV} {R : RX → MH → Prop} (w : Wx (b (sBegin n vs) h) (kRX R)) : Wr (runDefX n b vs h) R := by
  obtain ⟨o, h1, e, q⟩ := w
  cases o with
  | ok f s1 =>
    cases f with
    | nx => exact ⟨_, _, by simp only [runDefX, e], q⟩
    | rt v => exact ⟨_, _, by simp only [runDefX, e], q⟩
    | bk => exact q.elim
    | ct => exact q.elim
  | ex k s1 => exact ⟨_, _, by simp only [runDefX, e], q⟩
/-- what a try ends with -/
def kT (n : Nat) (sub : Nat → Nat → Bool) (hs : List (Nat × XS)) (Q : Fl → SM → MH → Prop) (o : OX) (h : MH) : Prop := match o with
  | .ok f s => Q f s h
  | .ex c s => c < n ∧ Wp (catchX sub c hs s h) Q
theorem kT_ok {n : Nat} {sub : Nat → Nat → Bool} {hs : List (Nat × XS)} {Q : Fl → SM → MH → Prop} {f : Fl} (q : Q f s h) : kT n sub hs Q (.ok f s) h := q
theorem kT_ex {n : Nat} {sub : Nat → Nat → Bool} {hs : List (Nat × XS)} {Q : Fl → SM → MH → Prop} {k : Nat} (l : k < n) (q : Wp (catchX sub k hs s h) Q) : kT n sub hs Q (.ex k s) h := ⟨l, q⟩
theorem wp_try {n : Nat} {sub : Nat → Nat → Bool} {hs : List (Nat × XS)} {Q : Fl → SM → MH → Prop} (w : Wx (b s h) (kT n sub hs Q)) : Wp (sTry n sub b hs s h) Q := by
  obtain ⟨o, h1, e, q⟩ := w
  cases o with
  | ok f s1 => exact ⟨_, _, _, by simp only [sTry, e], q⟩
  | ex k s1 => obtain ⟨l, f, s2, h2, e2, q⟩ := q; exact ⟨_, _, _, by simp only [sTry, e, if_pos l, e2], q⟩
theorem wp_catch_t {sub : Nat → Nat → Bool} {k d : Nat} {m : XS} {hs : List (Nat × XS)} {Q : Fl → SM → MH → Prop} (e : sub k d = true) (w : Wp (m s h) Q) : Wp (catchX sub k ((d, m) :: hs) s h) Q := by
  unfold catchX; rw [if_pos e]; exact w
theorem wp_catch_f {sub : Nat → Nat → Bool} {k d : Nat} {m : XS} {hs : List (Nat × XS)} {Q : Fl → SM → MH → Prop} (e : sub k d = false) (w : Wp (catchX sub k hs s h) Q) : Wp (catchX sub k ((d, m) :: hs) s h) Q := by
  unfold catchX; rw [if_neg (by rw [e]; exact Bool.noConfusion)]; exact w
end
theorem toldX_ex {g : FnX} {args : List MV} {h h2 : MH} {c : Nat} (e : g args h = some (.ex c, h2)) : toldX g args h = some (.ex c, h2) := by
  have e0 : okX g args h = none := by simp only [okX, e]
  have e1 : toldA (okX g) args h = none := by
    unfold toldA toldV toldF
    simp only [e0]
  simp only [toldX, e1, e]
end Ew
end

section
set_option Elab.async false
set_option linter.all false
set_option maxRecDepth 100000
set_option maxHeartbeats 4000000
/-! EwXB: the bridge of what may be raised. -/
namespace L2
open PySem PySem.Spec PyProof.Rows
section
variable {X : Cx} {C : Addr} {bmB : List Value} {B newId initId : String}
/-- X() of an own class -/
theorem pmk_own0 {x : Str} {p pos : Pos} (F : ExcBaseFacts B newId initId bmB) (q : PySem.W.excIn X.K C bmB newId = true) (gC : X.mg x = some (.ref C)) (kC : PySem.W.keepIn X.K (.ref C) = true) (r : Raises X (.ref C)) (hg : Gl X x)
    (hdb : (x == ("__debug__" : Str)) = false := by decide +kernel) : PMk X (.Call (.Name x p) [] [] pos) (fun _ H Q => Q (.ref C) none H) := by
  intro pins s σ H Q I h
  refine wpAny_Call_Name_kw (ld_glob I hg gC ?_ hdb)
  refine PySem.W.callWith_K0 I.kIn kC ?_
  show wpAny _ _ (call (.ref C) []) _ _ _
  obtain ⟨bm, N, nm, qn, bs, hdct, sn, sub, ab, col, dd, k0, k1, k2, k3, k5, mN, hC, hN, hni, T⟩ := exc_obj I.kIn q
  refine wpAny_call_exc_subT F T hC hN hni (fun h' e hm => ?_) (by show 0 ≤ sizeLine; omega)
  exact mk_of I hm r h (I.hok.gone hm.new)
end
end L2
namespace Ew
open PySem PySem.Spec PyProof.Rows L2
variable [Tabs]
section
variable (cv : Nat → Value) (K : PySem.W.Frag) (W : WX)
def EndX (r w : List Addr) (h' : MH) (H : Hp) (D : Ends) : OX → Prop
  | .ok f s' => EndS K r w h' H s' D f
  | .ex c s' => ∀ r' z' H', Fwd r H r' H' → Rel K r' w h' H' → SR K r' w H' s' z' → W (cv c) none z' H'
def tX (m : XSX) : TS := fun D z H => ∃ r w s h o h', Rel K r w h H ∧ SR K r w H s z ∧ m s h = some (o, h') ∧ EndX cv K W r w h' H D o
def spX (n : Nat) (g : FnX) : Sp := fun us H Q E => us.length = n ∧ ∃ r w h vs o h', Rel K r w h H ∧ VRs K r w H vs us ∧ g vs h = some (o, h') ∧ match o with
  | .val v => Cont K r w h' H v Q
  | .ex c => ∀ r' H', Fwd r H r' H' → Rel K r' w h' H' → E (cv c) none H'
end
theorem EndX.fwd {cv : Nat → Value} {K : PySem.W.Frag} {W : WX} {r r1 w : List Addr} {h1 h' : MH} {H H1 : Hp} {D : Ends} {o : OX} (C : EndX cv K W r w h' H D o) (F : Fwd r H r1 H1) (R1 : Rel K r1 w h1 H1) : EndX cv K W r1 w h' H1 D o := by
  cases o with
  | ok f s' => exact EndS.fwd C F R1
  | ex c s' => exact fun r' z' H' F' R' S' => C r' z' H' (F.tr R1 F') R' S'
abbrev MX (cv : Nat → Value) (X : Cx) (W : WX) (st : Stmt) (m : XSX) : Prop := PS X st (tX cv X.K W m)
abbrev MXs (cv : Nat → Value) (X : Cx) (W : WX) (st : List Stmt) (m : XSX) : Prop := PSs X st (tX cv X.K W m)
/-- what is known of an own class of exceptions -/
structure XcOk (K : PySem.W.Frag) (mg : Str → Option Value) (x : Str) (C : Addr) : Prop where
  g : mg x = some (.ref C)
  q : PySem.W.excIn K C [.type "ValueError", .type "Exception", .type "BaseException", .type "object"] "ValueError.__new__" = true
  k : PySem.W.keepIn K (.ref C) = true
  b : PySem.W.subIn K (.ref C) (.type "BaseException") = some true
  t : PySem.W.typeIn K (.ref C) = some (.type "type")
theorem exm_of {K : PySem.W.Frag} {C D : Addr} {k : Bool} (h1 : PySem.W.subIn K (.ref D) (.type "BaseException") = some true) (h2 : PySem.W.isClsIn K D = true) (h3 : PySem.W.typeIn K (.ref D) = some (.type "type")) (h4 : PySem.W.subIn K (.ref C) (.ref D) = some k) :
    PySem.W.exmOne K (.ref C) (.ref D) = some k := by
  have e1 : (PySem.W.subIn K (.ref D) (.type "BaseException") == some true) = true := by rw [h1] <;> rfl
  have e2 : ((PySem.W.clsIn K D).isSome && PySem.W.typeIn K (.ref D) == some (.type "type")) = true := by
    rw [h3]
    have : (PySem.W.clsIn K D).isSome = true := h2
    rw [this] <;> rfl
  show (if (PySem.W.subIn K (.ref D) (.type "BaseException") == some true) = true then (if ((PySem.W.clsIn K D).isSome && PySem.W.typeIn K (.ref D) == some (.type "type")) = true then PySem.W.subIn K (.ref C) (.ref D) else none) else none) = some k
  rw [if_pos e1, if_pos e2, h4]
section
variable {cv : Nat → Value} {X : Cx} {W : WX} {st : Stmt} {sts sts2 : List Stmt} {x y : XSX} {m : XS} {c : Expr} {ta : XT} {pos : Pos}
theorem mx_lift (h : MS X st m) : MX cv X W st (liftX m) := PS.wk h fun D z H ⟨r, w, s, hh, o, h', R, S, e, C⟩ => by
  unfold liftX at e
  split at e
  · rename_i f s' h1 e1
    simp only [Option.some.injEq, Prod.mk.injEq] at e
    obtain ⟨rfl, rfl⟩ := e
    exact ⟨r, w, s, hh, f, s', _, R, S, e1, C⟩
  · cases e
theorem mxs_lift (h : MSs X sts m) : MXs cv X W sts (liftX m) := PSs.wk h fun D z H ⟨r, w, s, hh, o, h', R, S, e, C⟩ => by
  unfold liftX at e
  split at e
  · rename_i f s' h1 e1
    simp only [Option.some.injEq, Prod.mk.injEq] at e
    obtain ⟨rfl, rfl⟩ := e
    exact ⟨r, w, s, hh, f, s', _, R, S, e1, C⟩
  · cases e
theorem mxs_one (h : MX cv X W st x) : MXs cv X W [st] x := pss_one h
theorem mxs_cons (h1 : MX cv X W st x) (h2 : MXs cv X W sts y) : MXs cv X W (st :: sts) (seqX x y) := PSs.wk (pss_cons h1 h2) fun D z H ⟨r, w, s, h, o, h', R, S, e, C⟩ => by
  unfold seqX at e
  cases e1 : x s h with
  | none => simp [e1] at e
  | some p1 =>
    obtain ⟨o1, h1⟩ := p1
    cases o1 with
    | ok f1 s1 =>
      cases f1 with
      | nx =>
        simp only [e1] at e
        exact ⟨r, w, s, h, .ok .nx s1, h1, R, S, e1, fun r1 z1 H1 F1 R1 S1 => ⟨r1, w, s1, h1, o, h', R1, S1, e, EndX.fwd C F1 R1⟩⟩
      | rt v =>
        simp only [e1, Option.some.injEq, Prod.mk.injEq] at e
        obtain ⟨rfl, rfl⟩ := e
        exact ⟨r, w, s, h, .ok (.rt v) s1, _, R, S, e1, C⟩
      | bk =>
        simp only [e1, Option.some.injEq, Prod.mk.injEq] at e
        obtain ⟨rfl, rfl⟩ := e
        exact ⟨r, w, s, h, .ok .bk s1, _, R, S, e1, C⟩
      | ct =>
        simp only [e1, Option.some.injEq, Prod.mk.injEq] at e
        obtain ⟨rfl, rfl⟩ := e
        exact ⟨r, w, s, h, .ok .ct s1, _, R, S, e1, C⟩
    | ex k s1 =>
      simp only [e1, Option.some.injEq, Prod.mk.injEq] at e
      obtain ⟨rfl, rfl⟩ := e
      exact ⟨r, w, s, h, .ex k s1, _, R, S, e1, C⟩
theorem mx_if (hc : MT X c ta) (h1 : MXs cv X W sts x) (h2 : MXs cv X W sts2 y) : MX cv X W (.If c sts sts2 pos) (ifX ta x y) := PS.wk (ps_if hc h1 h2) fun D z H ⟨r, w, s, h, o, h', R, S, e, C⟩ => by
  unfold ifX at e
  split at e
  · cases e
  · rename_i h1 e1
    exact ⟨r, w, s, h, _, h1, R, S, e1, fun r1 H1 F1 R1 => iteT ⟨r1, w, s, h1, o, h', R1, S.fwd F1, e, EndX.fwd C F1 R1⟩⟩
  · rename_i h1 e1
    exact ⟨r, w, s, h, _, h1, R, S, e1, fun r1 H1 F1 R1 => iteF ⟨r1, w, s, h1, o, h', R1, S.fwd F1, e, EndX.fwd C F1 R1⟩⟩
theorem mx_raise {k : Nat} {C : Addr} {nm : Str} {p p2 pos : Pos} (tk : Takes X W) (xc : XcOk X.K X.mg nm C) (ec : cv k = .ref C) (hc : X.calm = true := by rfl) (hg : Gl X nm := by rfl) (hdb : (nm == ("__debug__" : Str)) = false := by decide +kernel) : MX cv X W (.Raise (some (.Call (.Name nm p) [] [] p2)) none pos) (raiseX k) :=
  PS.wk (ps_raise hc tk (pmk_own0 PySem.F.excBase_ValueError xc.q xc.g xc.k (raises_own xc.b xc.t) hg hdb)) fun D z H ⟨r, w, s, h, o, h', R, S, e, C⟩ => by
  simp only [raiseX, Option.some.injEq, Prod.mk.injEq] at e
  obtain ⟨rfl, rfl⟩ := e
  have := C r z H (Fwd.refl r H) R S
  rw [ec] at this
  exact this
end
/-! ### calls -/
def CalX (cv : Nat → Value) (P : Program) (w : World) (K : PySem.W.Frag) (mg : Str → Option Value) (base : Heap) (x : Str) (n : Nat) (g : FnX) (k : Nat) : Prop :=
  ∃ (f : Addr) (fd : FuncData) (ps : List Str), FnOk P w K mg base (L2.CX P w) k f fd ps (spX cv K n g) ∧ ps.length = n ∧ mg x = some (.ref f) ∧ PySem.W.keepIn K (.ref f) = true ∧ Binds K fd ps []
section
variable {cv : Nat → Value} {X : Cx} {W : WX} {e tg : Expr} {es : List Expr} {mas : XA} {x : Str} {p pos pos2 : Pos} {n k j : Nat} {g : FnX} {gm : XG}
theorem spX_at {r w : List Addr} {h1 : MH} {H : Hp} {xs : List MV} {z : L2.St} {s : SM} {Q : VK} {o : RX} {h2 : MH} {r1 : List Addr} {us : List V} {H1 : Hp} (hl : us.length = n) (S : SR X.K r w H s z) (F1 : Fwd r H r1 H1) (R1 : Rel X.K r1 w h1 H1) (V1 : VRs X.K r1 w H1 xs us) (e2 : g xs h1 = some (o, h2))
    (c : match o with
      | .val v => Cont X.K r1 w h2 H1 v Q
      | .ex c => ∀ r' z' H', Fwd r H r' H' → Rel X.K r' w h2 H' → SR X.K r' w H' s z' → W (cv c) none z' H') : spX cv X.K n g us H1 Q (WE W z) := by
  refine ⟨hl, r1, w, h1, xs, o, h2, R1, V1, e2, ?_⟩
  cases o with
  | val v => exact c
  | ex k => exact fun r' H' F' R' => c r' z H' (F1.tr R1 F') R' (S.fwd (F1.tr R1 F'))
theorem mx_expr (F : CalX cv X.prog X.w X.K X.mg X.base x n g j) (tk : Takes X W) (hr : Room k X.A) (ha : MA X (e :: es) mas) (hj : j ≤ k := by decide) (hn : (e :: es).length = n := by rfl) (hg : Gl X x := by rfl) (hdb : (x == ("__debug__" : Str)) = false := by decide +kernel)
    (he : starEach (e :: es) X.env = (false, eval e X.env) :: starEach es X.env := by rfl) (hpl : (backTo pos (starEach es X.env)).any (·.1) = false := by rfl) (hs : swapsWith (.Call (.Name x p) (e :: es) [] pos) none pos2.line X.env = pure false := by rfl) : MX cv X W (.Expr (.Call (.Name x p) (e :: es) [] pos) pos2) (exprX g mas) := by
  obtain ⟨f, fd, ps, F, hps, hm, hk, hb⟩ := F
  refine PS.wk (ps_expr (pe_callS F (hr.mono hj) hg hm hk hb (fun σ => passAt tk σ) ha.pa hdb he hpl) hs) fun D z H ⟨r, w, s, h, o, h', R, S, ev, C⟩ => ?_
  unfold exprX at ev
  cases e1 : mas s h with
  | none => simp [e1] at ev
  | some p1 =>
    obtain ⟨xs, h1⟩ := p1
    simp only [e1] at ev
    have hl : xs.length = n := by rw [ha.len _ _ _ _ e1]; exact hn
    cases e2 : g xs h1 with
    | none => simp [e2] at ev
    | some p2 =>
      obtain ⟨o2, h2⟩ := p2
      refine ⟨r, w, s, h, xs, h1, R, S, e1, fun r1 us H1 F1 R1 V1 => spX_at (by rw [← VRs.length V1]; exact hl) S F1 R1 V1 e2 ?_⟩
      cases o2 with
      | val v =>
        simp only [e2, Option.some.injEq, Prod.mk.injEq] at ev
        obtain ⟨rfl, rfl⟩ := ev
        exact fun r2 u2 H2 F2 R2 V2 => C r2 z H2 (F1.tr R1 F2) R2 (S.fwd (F1.tr R1 F2))
      | ex k =>
        simp only [e2, Option.some.injEq, Prod.mk.injEq] at ev
        obtain ⟨rfl, rfl⟩ := ev
        exact C
end
/-! ### defs that may raise -/
section
variable {cv : Nat → Value} {P : Program} {w : World} {K : PySem.W.Frag} {mg : Str → Option Value} {base : Heap} {x : Str} {n k : Nat}
theorem start_sr {N : List Str} {r w' : List Addr} {H : Hp} {vs : List MV} {us : List V} (V : VRs K r w' H vs us) : SR K r w' H (sBegin N.length vs) (L2.start N us) := by
  have hvl := VRs.length V
  refine ⟨by simp [sBegin, L2.start, hvl], fun i y ey => ?_⟩
  unfold sBegin at ey
  unfold L2.start
  by_cases hi : i < vs.length
  · rw [List.getElem?_append_left (by simpa using hi), List.getElem?_map] at ey
    cases ev : vs[i]? with
    | none => rw [ev] at ey; simp at ey
    | some y' =>
      rw [ev] at ey
      simp only [Option.map_some, Option.some.injEq] at ey
      subst ey
      obtain ⟨u, e1, e2⟩ := VRs.get V ev
      refine ⟨u, ?_, e2⟩
      rw [List.getElem?_append_left (by simpa [← hvl] using hi), List.getElem?_map, e1]
      rfl
  · rw [List.getElem?_append_right (by simpa using hi), List.getElem?_replicate] at ey
    split at ey <;> cases ey
theorem def_okX {N ps : List Str} {st : Stmt} {f : Addr} {fd : FuncData} {b : XSX} (F : L2.Fun K x x st f fd) (hg : mg x = some (.ref f)) (S : FnScope N ps (defScope st))
    (hb : ∀ (kV doc pm : Value) (an : Option Addr) (cdv ct : Value) (us : List Value), us.length = ps.length → bindArgs (PySem.W.fnOf x x (defArgs st) (defBody st) (defScope st) .none kV doc pm an cdv ct) ⟨us, []⟩ = pure (ps.zip us))
    (body : ∀ (cdv : Value) (A : Around) (outer : List Env) (s : Shared) (H : Hp) (E : XK), Room k (A.deeper (envOfC x (defScope st) s.heap.objs.size f cdv)) →
      Takes (cxOf (L2.CX P w) P w K mg base N x (defScope st) f cdv A outer s H E) (fun cls d _ H => E cls d H) →
      MXs cv (cxOf (L2.CX P w) P w K mg base N x (defScope st) f cdv A outer s H E) (fun cls d _ H => E cls d H) (defBody st) b) : CalX cv P w K mg base x ps.length (runDefX N.length b) (k + 1) := by
  refine ⟨f, fd, ps, ?_, rfl, hg, F.kp, F.binds hb⟩
  refine F.okX S (fun vs H Q E h => h.1) (fun cdv A outer s H us Q E hr h => ?_)
  obtain ⟨hl, r, w', hh, vs, o, h', R, V, e, C⟩ := h
  refine ⟨_, body cdv A outer s H E hr (takes_of rfl rfl rfl rfl), ?_⟩
  have S0 := start_sr (N := N) V
  unfold runDefX at e
  split at e
  · rename_i v1 s1 h1 e1
    simp only [Option.some.injEq, Prod.mk.injEq] at e
    obtain ⟨rfl, rfl⟩ := e
    exact ⟨r, w', _, hh, .ok (.rt v1) s1, _, R, S0, e1, C⟩
  · rename_i s1 h1 e1
    simp only [Option.some.injEq, Prod.mk.injEq] at e
    obtain ⟨rfl, rfl⟩ := e
    exact ⟨r, w', _, hh, .ok .nx s1, _, R, S0, e1, fun r1 z1 H1 F1 R1 S1 => C r1 .non H1 F1 R1 (by simp only [VR])⟩
  · rename_i c s1 h1 e1
    simp only [Option.some.injEq, Prod.mk.injEq] at e
    obtain ⟨rfl, rfl⟩ := e
    exact ⟨r, w', _, hh, .ex c s1, _, R, S0, e1, fun r1 z1 H1 F1 R1 S1 => C r1 H1 F1 R1⟩
  · cases e
end
section
variable {cv : Nat → Value} {X : Cx} {e : Expr} {es : List Expr} {mas : XA} {x : Str} {p pos : Pos} {n k j : Nat} {g : FnX}
end
/-! ### try -/
section
variable {cv : Nat → Value} {X : Cx} {body : List Stmt} {b : XSX} {pos : Pos}
inductive MHs (cv : Nat → Value) (X : Cx) : List ExceptHandler → List (Nat × XS) → Prop
  | nil : MHs cv X [] []
  | cons {x : Str} {d : Nat} {m : XS} {b₀ : Stmt} {suite : List Stmt} {np pos' : Pos} {hds : List ExceptHandler} {l : List (Nat × XS)} (hc : Names X x (cv d))
      (hsu : ∀ (a : Addr) (oe : Obj) (pn : List (Addr × Obj)), MSs (X.suite a ((a, oe) :: pn)) (b₀ :: suite) m) (r : MHs cv X hds l) :
      MHs cv X (.ExceptHandler (some (.Name x np)) none (b₀ :: suite) pos' :: hds) ((d, m) :: l)
theorem MHs.ok {hds : List ExceptHandler} {l : List (Nat × XS)} (h : MHs cv X hds l) : HdsOk X hds (l.map fun p => (cv p.1, fun _ _ _ => tS X.K p.2)) := by
  induction h with
  | nil => exact .nil
  | cons hc hsu _ ih => exact .cons hc (fun a oe cls d pn _ _ => hsu a oe pn) ih
end
section
variable {cv : Nat → Value} {P : Program} {w : World} {K : PySem.W.Frag} {mg : Str → Option Value} {base : Heap} {x : Str} {n k : Nat} {g : FnX}
theorem CalX.told (F : CalX cv P w K mg base x n g k) : CalX cv P w K mg base x n (toldX g) k := by
  obtain ⟨f, fd, ps, F, hps, hm, hk, hb⟩ := F
  refine ⟨f, fd, ps, F.imp fun us H Q E ⟨hl, r, w', h, vs, o, h', R, V, e, C⟩ => ?_, hps, hm, hk, hb⟩
  unfold toldX at e
  split at e
  · rename_i v h1 e1
    simp only [Option.some.injEq, Prod.mk.injEq] at e
    obtain ⟨rfl, rfl⟩ := e
    obtain ⟨v2, h2, e2, cel, fz⟩ := toldA_ok (okX g) vs h v h1 e1
    unfold okX at e2
    split at e2
    · rename_i v3 h3 e3
      simp only [Option.some.injEq, Prod.mk.injEq] at e2
      obtain ⟨rfl, rfl⟩ := e2
      refine ⟨hl, r, w', h, vs, .val v3, h3, R, V, e3, fun r2 u H2 F2 R2 V2 => ?_⟩
      obtain ⟨⟨ps, rfl, hps⟩, kp, fr⟩ := F2
      have hx : ∀ d, (r ++ ps)[h3.length]? = some d → False := fun d e => by
        have := (List.getElem?_eq_some_iff.mp e).1
        rw [R2.len] at this
        omega
      rw [← R.len] at fz
      have hw : ∀ d ∈ w', d ∈ w' ∨ (r ++ ps)[h3.length]? = some d := fun d hd => .inl hd
      refine C r u H2 ⟨⟨[], by simp, fun _ z => nomatch z⟩, kp, fr⟩ (rel_cel R R2 hw (fun d e => (hx d e).elim) cel fun d hd => (R2.wh d hd).2) (frz_vr R2 hw v v3 u fz V2)
    · cases e2
  · split at e
    · rename_i c h2 e2
      simp only [Option.some.injEq, Prod.mk.injEq] at e
      obtain ⟨rfl, rfl⟩ := e
      exact ⟨hl, r, w', h, vs, .ex c, _, R, V, e2, C⟩
    · cases e
end
end Ew
end

section
set_option Elab.async false
set_option linter.all false
set_option maxRecDepth 100000
set_option maxHeartbeats 4000000
/-! EwDF: defs whose last parameters have defaults. -/
namespace Ew
open PySem PySem.Spec PyProof.Rows L2
variable [Tabs]
section
variable {cv : Nat → Value} {P : Program} {w : World} {K : PySem.W.Frag} {mg : Str → Option Value} {base : Heap} {x : Str} {k : Nat}
end
section
variable {cv : Nat → Value} {X : Cx} {W : WX} {e : Expr} {es : List Expr} {mas : XA} {x : Str} {p pos pos2 : Pos} {n k j : Nat} {g : FnX} {ms : List MV}
end
end Ew
end

section
set_option Elab.async false
set_option linter.all false
set_option maxRecDepth 100000
set_option maxHeartbeats 4000000
/-! EwXA: except C as e, where the suite asks only what e is an instance of. -/
namespace Ew
open PySem PySem.Spec PyProof.Rows L2
variable [Tabs]
section
variable {cv : Nat → Value} {X : Cx} {n i : Nat}
/-- asked in the suite of the exception of class c -/
structure IsE (cv : Nat → Value) (X : Cx) (n i : Nat) (e : Expr) (q : Nat → Bool) : Prop where
  pe : ∀ (a : Addr) (oe : Obj) (pn : List (Addr × Obj)) (c : Nat), c < n → Zc (cv c) none oe → (∃ vs, oe.data = .fields vs) →
    PE (X.suite a ((a, oe) :: pn)) e (fun σ H Q => σ[i]? = some (some (V.ref a)) ∧ Q (.bl (q c)) H)
  fn : ∀ c c', c < n → c' < n → cv c = cv c' → q c = q c'
structure IsA (cv : Nat → Value) (X : Cx) (n i : Nat) (es : List Expr) (qs : List (Nat → Bool)) : Prop where
  pa : ∀ (a : Addr) (oe : Obj) (pn : List (Addr × Obj)) (c : Nat), c < n → Zc (cv c) none oe → (∃ vs, oe.data = .fields vs) →
    PA (X.suite a ((a, oe) :: pn)) es (fun σ H Q => σ[i]? = some (some (V.ref a)) ∧ Q (qs.map fun q => V.bl (q c)) H)
  fn : ∀ c c', c < n → c' < n → cv c = cv c' → (qs.map fun q => V.bl (q c)) = qs.map fun q => V.bl (q c')
theorem isa_nil : IsA cv X n i [] [] := ⟨fun a oe pn c _ _ _ => PA.wk pa_nil fun σ H Q h => h.2, fun _ _ _ _ _ => rfl⟩
theorem isa_cons {e : Expr} {es : List Expr} {q : Nat → Bool} {qs : List (Nat → Bool)} (he : IsE cv X n i e q) (ha : IsA cv X n i es qs) (hs : starEach (e :: es) X.env = (false, eval e X.env) :: starEach es X.env := by rfl) : IsA cv X n i (e :: es) (q :: qs) :=
  ⟨fun a oe pn c hc hz hf => PA.wk (pa_cons (X := X.suite a ((a, oe) :: pn)) (he.pe a oe pn c hc hz hf) (ha.pa a oe pn c hc hz hf) hs) fun σ H Q h => ⟨h.1, h.1, h.2⟩, fun c c' h1 h2 e => by
    rw [List.map_cons, List.map_cons, he.fn c c' h1 h2 e, ha.fn c c' h1 h2 e]⟩
/-- what is known of the classes that may be raised -/
structure XisOk (cv : Nat → Value) (K : PySem.W.Frag) (n : Nat) (cls : Value) (q : Nat → Bool) : Prop where
  at_ : ∀ c, c < n → ∃ D, cv c = .ref D ∧ ExcC K D ∧ PySem.W.kitOne K (.ref D) cls = some (q c)
theorem XisOk.fn {K : PySem.W.Frag} {cls : Value} {q : Nat → Bool} (h : XisOk cv K n cls q) : ∀ c c', c < n → c' < n → cv c = cv c' → q c = q c' := fun c c' h1 h2 e => by
  obtain ⟨D, e1, _, k1⟩ := h.at_ c h1
  obtain ⟨D', e2, _, k2⟩ := h.at_ c' h2
  rw [e1, e2] at e
  cases e
  rw [k1] at k2
  exact Option.some.inj k2
theorem ise_own {nm t : Str} {C : Addr} {q : Nat → Bool} {p1 p2 p3 p4 : Pos} (hm : X.mg "isinstance" = none) (hm2 : X.mg t = some (.ref C)) (hE : XisOk cv X.K n (.ref C) q) (hN : X.N[i]? = some nm := by rfl)
    (hv : Vis X.env.scope nm := by first | exact Or.inl rfl | exact Or.inr (Or.inl rfl) | exact Or.inr (Or.inr rfl)) (hg : Gl X "isinstance" := by rfl) (hg2 : Gl X t := by rfl) (hd : (nm == ("__debug__" : Str)) = false := by decide +kernel) (hcd : (nm == ("__classdict__" : Str)) = false := by decide +kernel) (hd2 : (t == ("__debug__" : Str)) = false := by decide +kernel)
    (hs : starEach [.Name nm p2, .Name t p3] X.env = (false, eval (.Name nm p2) X.env) :: starEach [.Name t p3] X.env := by rfl) (hs2 : starEach [.Name t p3] X.env = (false, eval (.Name t p3) X.env) :: starEach [] X.env := by rfl) :
    IsE cv X n i (.Call (.Name "isinstance" p1) [.Name nm p2, .Name t p3] [] p4) q := ⟨fun a oe pn c hc hz hf => by
  obtain ⟨D, eD, hC, hk⟩ := hE.at_ c hc
  rw [eD] at hz
  refine PE.wk (pe_callB (X := X.suite a ((a, oe) :: pn)) (call_isE hC hz hf) hg hm (by decide +kernel) (pa_cons (X := X.suite a ((a, oe) :: pn)) (pe_var (X := X.suite a ((a, oe) :: pn)) hN hv hd hcd) (pa_cons (X := X.suite a ((a, oe) :: pn)) (pe_glob (X := X.suite a ((a, oe) :: pn)) (v := .ref C) hg2 hm2 rfl hd2) pa_nil hs2) hs) (by decide +kernel) (by decide +kernel) hs) fun σ H Q h => ?_
  exact ⟨.ref a, h.1, .ref C, .ref C, q c, rfl, fun u ru => ru, hk, h.2⟩, hE.fn⟩
theorem ise_ty {nm t : Str} {tn : String} {q : Nat → Bool} {p1 p2 p3 p4 : Pos} (hm : X.mg "isinstance" = none) (hm2 : X.mg t = none) (hv2 : bootBuiltins t = some (.type tn)) (hE : XisOk cv X.K n (.type tn) q) (hN : X.N[i]? = some nm := by rfl)
    (hv : Vis X.env.scope nm := by first | exact Or.inl rfl | exact Or.inr (Or.inl rfl) | exact Or.inr (Or.inr rfl)) (hg : Gl X "isinstance" := by rfl) (hg2 : Gl X t := by rfl) (hd : (nm == ("__debug__" : Str)) = false := by decide +kernel) (hcd : (nm == ("__classdict__" : Str)) = false := by decide +kernel) (hd2 : (t == ("__debug__" : Str)) = false := by decide +kernel) (hn2 : t ≠ "__name__" := by decide +kernel)
    (hs : starEach [.Name nm p2, .Name t p3] X.env = (false, eval (.Name nm p2) X.env) :: starEach [.Name t p3] X.env := by rfl) (hs2 : starEach [.Name t p3] X.env = (false, eval (.Name t p3) X.env) :: starEach [] X.env := by rfl) :
    IsE cv X n i (.Call (.Name "isinstance" p1) [.Name nm p2, .Name t p3] [] p4) q := ⟨fun a oe pn c hc hz hf => by
  obtain ⟨D, eD, hC, hk⟩ := hE.at_ c hc
  rw [eD] at hz
  refine PE.wk (pe_callB (X := X.suite a ((a, oe) :: pn)) (call_isE hC hz hf) hg hm (by decide +kernel) (pa_cons (X := X.suite a ((a, oe) :: pn)) (pe_var (X := X.suite a ((a, oe) :: pn)) hN hv hd hcd) (pa_cons (X := X.suite a ((a, oe) :: pn)) (pe_bltn (X := X.suite a ((a, oe) :: pn)) (v := .ty tn) hg2 hm2 hv2 rfl hn2 hd2) pa_nil hs2) hs) (by decide +kernel) (by decide +kernel) hs) fun σ H Q h => ?_
  exact ⟨.ref a, h.1, .ty tn, .type tn, q c, rfl, fun u ru => ru, hk, h.2⟩, hE.fn⟩
/-- x = [isinstance(e, ..), ..] in the suite -/
theorem bl_vrs {K : PySem.W.Frag} {r w : List Addr} {H : Hp} {c : Nat} : ∀ qs : List (Nat → Bool), VRs K r w H (qs.map fun q => MV.bl (q c)) (qs.map fun q => V.bl (q c))
  | [] => by simp [VRs]
  | q :: qs => by
    simp only [List.map_cons, VRs, VR]
    exact ⟨_, _, rfl, rfl, bl_vrs qs⟩
theorem ms_tryAs {sub : Nat → Nat → Bool} {d j : Nat} {x nm t : Str} {body : List Stmt} {b : XSX} {es : List Expr} {qs : List (Nat → Bool)} {np tp lp ap pos pos' : Pos} (hx : ∀ c d, c < n → d < n → PySem.W.exmOne X.K (cv c) (cv d) = some (sub c d)) (hd : d < n) (hc : Names X x (cv d)) (hN : X.N.Nodup)
    (hb : ∀ (W : WX) (pn : List (Addr × Obj)) (xe : Value → Shared → Prop), Takes (X.tr pn xe) W → PassesOwn (model X.prog X.w) X.A X.env xe → MXs cv (X.tr pn xe) W body b) (hA : IsA cv X n i es qs) (hij : i ≠ j) (hlen : qs.length ≤ 1000 := by decide)
    (hi : X.N[i]? = some nm := by rfl) (hj : X.N[j]? = some t := by rfl) (hln : X.env.kindOf nm = some .local := by rfl)
    (hlx : Loc X.env.scope t := by first | exact .inl rfl | exact .inr rfl) (hfx : X.fn t = true ∨ X.env.scope.names.lookup t = some .local := by first | exact .inl rfl | exact .inr rfl)
    (h1 : swapsWithSole [.Name t tp] (.List es lp) ap.line X.env = pure false := by rfl) (h2 : swappedStores [.Name t tp] (.List es lp) X.env = pure none := by rfl) (h3 : (assignEach [.Name t tp] X.env).map (·.2) = [assign (.Name t tp) X.env] := by rfl)
    (hs : X.stack = X.env :: X.outer := by rfl) (hf : X.env.frame = some X.env.locals := by rfl) :
    MS X (.Try body [.ExceptHandler (some (.Name x np)) (some nm) [.Assign [.Name t tp] (.List es lp) ap] pos'] [] [] pos) (sTryAs n sub b d i qs j) := by
  refine PS.wk (ps_try_as (tb := fun W => tX cv X.K W b) (i := i) (c := cv d) (ts := fun a cls d0 D' σ H => ∃ c, c < n ∧ cls = cv c ∧ d0 = none ∧ σ[i]? = some (some (V.ref a)) ∧ ∀ p, H p = none → D'.nx (σ.set j (some (.ref p))) (upd H p (.lst (qs.map fun q => V.bl (q c))))) hs hf hN hi hln hc takes0 hb (fun a oe cls d0 pn hz hf => ?_)) fun D z H ⟨r, w, s, h, f, s', h', R, S, e, C⟩ => ?_
  · by_cases hk : ∃ c, c < n ∧ cls = cv c ∧ d0 = none
    · obtain ⟨c, hcn, rfl, rfl⟩ := hk
      refine PSs.wk (pss_one (ps_asg (X := X.suite a ((a, oe) :: pn)) (pe_lst (X := X.suite a ((a, oe) :: pn)) (hA.pa a oe pn c hcn hz hf)) (pg_name (X := X.suite a ((a, oe) :: pn)) hN hj hlx hfx) h1 h2 h3)) fun D σ H ⟨c', hc', e, _, g1, g2⟩ => ?_
      refine ⟨g1, by rw [List.length_map]; exact Nat.le_trans hlen (by rw [sizeLine_eq]; omega), fun p hp => ?_⟩
      have := g2 p hp
      rw [hA.fn c' c hc' hcn e.symm] at this
      exact this
    · exact ⟨fun pins s σ H D I h => by
        obtain ⟨c, h1, h2, h3, _⟩ := h
        exact (hk ⟨c, h1, h2, h3⟩).elim⟩
  · unfold sTryAs at e
    split at e
    · rename_i f1 s1 h1 e1
      simp only [Option.some.injEq, Prod.mk.injEq] at e
      obtain ⟨rfl, rfl, rfl⟩ := e
      exact ⟨r, w, s, h, .ok f1 s1, h1, R, S, e1, C⟩
    · rename_i c s1 h1 e1
      split at e
      · rename_i q
        obtain ⟨q1, q2, q3, q4⟩ := q
        simp only [Option.some.injEq, Prod.mk.injEq] at e
        obtain ⟨rfl, rfl, rfl⟩ := e
        refine ⟨r, w, s, h, .ex c s1, h1, R, S, e1, fun r' z' H' F' R' S' => ?_⟩
        refine ⟨true, (hx c d q1 hd).trans (by rw [q2]), fun _ a na => ⟨c, q1, rfl, rfl, ?_, fun p hp => ?_⟩, fun z => by cases z⟩
        · rw [List.getElem?_set_self (by rw [← S'.1]; exact q3)]
        · refine C r' _ _ (F'.tr R' (Fwd.new r' hp)) (R'.new hp) ⟨by simp only [List.length_set]; exact S'.1, fun k v ek => ?_⟩
          by_cases kj : k = j
          · subst kj
            rw [List.getElem?_set_self (by rw [List.length_set]; exact q4)] at ek
            have ek := Option.some.inj (Option.some.inj ek)
            subst ek
            refine ⟨.ref p, ?_, ?_⟩
            · rw [List.getElem?_set_ne hij, List.getElem?_set_self (by rw [List.length_set, ← S'.1]; exact q4)]
            · simp only [VR]
              exact ⟨p, _, rfl, ⟨R'.nin hp, R'.ninw hp⟩, upd_same, bl_vrs qs⟩
          · rw [List.getElem?_set_ne (Ne.symm kj)] at ek
            by_cases ki : k = i
            · subst ki
              rw [List.getElem?_set_self q3] at ek
              cases ek
            · rw [List.getElem?_set_ne (Ne.symm ki)] at ek
              obtain ⟨u, e2, V2⟩ := S'.2 k v ek
              refine ⟨u, ?_, VR.fwd (Fwd.new r' hp) _ _ V2⟩
              rw [List.getElem?_set_ne (Ne.symm ki), List.getElem?_set_ne (Ne.symm kj), List.getElem?_set_ne (Ne.symm ki)]
              exact e2
      · cases e
    · cases e
end
end Ew
end

section
set_option linter.all false
set_option maxRecDepth 100000
/-! the plain part of law_k20_fill_refused -/
namespace Ew
open PySem (Str)
theorem gd_Wp {o q} (w : Wp o q) : Wp o q := w
theorem gd_kS {b q f s h} (w : kS b q f s h) : kS b q f s h := w
theorem gd_We {o q} (w : We o q) : We o q := w
theorem gd_Wv {o q} (w : Wv o q) : Wv o q := w
theorem gd_Wt {o q} (w : Wt o q) : Wt o q := w
theorem gd_kB {k a b} (w : kB k a b) : kB k a b := w
theorem gd_Wg {o q} (w : Wg o q) : Wg o q := w
theorem gd_Wi {o q} (w : Wi o q) : Wi o q := w
theorem gd_Wx {o q} (w : Wx o q) : Wx o q := w
theorem gd_Len {h l q} (w : Wv (fLen h l) q) : Wv (fLen h l) q := w
theorem gd_List {h l q} (w : Wv (fList h l) q) : Wv (fList h l) q := w
theorem gd_Tup {h l q} (w : Wv (fTuple h l) q) : Wv (fTuple h l) q := w
theorem gd_Ix {h a b q} (w : Wv (opIx h a b) q) : Wv (opIx h a b) q := w
theorem gd_At {a b q} (w : Wv (atM a b) q) : Wv (atM a b) q := w
theorem gd_In {h a b q} (w : Wv (opIn h a b) q) : Wv (opIn h a b) q := w
theorem gd_NIn {h a b q} (w : Wv (opNotIn h a b) q) : Wv (opNotIn h a b) q := w
theorem gd_Srt {h l q} (w : Wv (fSorted h l) q) : Wv (fSorted h l) q := w
local macro_rules
  | `(tactic| simp only [ews]) => `(tactic| simp only [sSeq, sAsg, sIf, sRet, sRetN, sExpr, sNext, sPar, sPar3, sBk, sCt, sFor, sPut, gNm, gTp, gsCons, gsNil, xVar, xC, xOp, xUn, xCons, xNil, xArgs, xCall, xTup, xLst, xBox, boxM, xIf, xAnd, xOr, xNot, xB, xAndT, xOrT, xNotT, xAppend, xPop, xPopAt, xExtend, xExtendT, xSlL, xPart, xNoPart, iSeq, iRange1, iRange2, cYes, seqOf, listOf, isLstC, runDef, sBegin, List.map_cons, List.map_nil, List.length_cons, List.length_nil, List.getElem?_cons_zero, List.getElem?_cons_succ, List.getElem?_nil, List.set_cons_zero, List.set_cons_succ, List.cons_append, List.nil_append, List.append_nil, Nat.sub_self, Nat.zero_add, Nat.reduceAdd, Nat.reduceSub, Nat.add_one_sub_one, List.replicate_zero, List.replicate_succ, Option.map_some, if_true, if_false, decide_true, decide_false, Bool.not_true, Bool.not_false, Bool.true_or, Bool.false_or, Bool.or_true, Bool.or_false, Bool.true_and, Bool.false_and, Bool.and_true, Bool.and_false, beq_self_eq_true, opAdd, opSub, opNeg, opLt, opLe, opGt, opGe, opIx, fLen, fAbs, fMax2, fMin2, fIsi, tyN, fList, fTuple, fDictP, opCat, opCatT, lstC, fKeys, fKeysS, fSorted, xPairs, xDisp, xUpdate, sForK, gLp, fKeysT, opRevT, iEnumT, keyOf, keyV, opIsBl, opNotBl, dictK, st_NoneType_bool, st_NoneType_int, st_NoneType_str, st_NoneType_tuple, st_NoneType_list, st_NoneType_dict, st_bool_bool, st_bool_int, st_bool_str, st_bool_tuple, st_bool_list, st_bool_dict, st_int_bool, st_int_int, st_int_str, st_int_tuple, st_int_list, st_int_dict, st_str_bool, st_str_int, st_str_str, st_str_tuple, st_str_list, st_str_dict, st_tuple_bool, st_tuple_int, st_tuple_str, st_tuple_tuple, st_tuple_list, st_tuple_dict, st_list_bool, st_list_int, st_list_str, st_list_tuple, st_list_list, st_list_dict, st_dict_bool, st_dict_int, st_dict_str, st_dict_tuple, st_dict_list, st_dict_dict])
  | `(tactic| simp only [ews, $ts,*]) => `(tactic| simp only [sSeq, sAsg, sIf, sRet, sRetN, sExpr, sNext, sPar, sPar3, sBk, sCt, sFor, sPut, gNm, gTp, gsCons, gsNil, xVar, xC, xOp, xUn, xCons, xNil, xArgs, xCall, xTup, xLst, xBox, boxM, xIf, xAnd, xOr, xNot, xB, xAndT, xOrT, xNotT, xAppend, xPop, xPopAt, xExtend, xExtendT, xSlL, xPart, xNoPart, iSeq, iRange1, iRange2, cYes, seqOf, listOf, isLstC, runDef, sBegin, List.map_cons, List.map_nil, List.length_cons, List.length_nil, List.getElem?_cons_zero, List.getElem?_cons_succ, List.getElem?_nil, List.set_cons_zero, List.set_cons_succ, List.cons_append, List.nil_append, List.append_nil, Nat.sub_self, Nat.zero_add, Nat.reduceAdd, Nat.reduceSub, Nat.add_one_sub_one, List.replicate_zero, List.replicate_succ, Option.map_some, if_true, if_false, decide_true, decide_false, Bool.not_true, Bool.not_false, Bool.true_or, Bool.false_or, Bool.or_true, Bool.or_false, Bool.true_and, Bool.false_and, Bool.and_true, Bool.and_false, beq_self_eq_true, opAdd, opSub, opNeg, opLt, opLe, opGt, opGe, opIx, fLen, fAbs, fMax2, fMin2, fIsi, tyN, fList, fTuple, fDictP, opCat, opCatT, lstC, fKeys, fKeysS, fSorted, xPairs, xDisp, xUpdate, sForK, gLp, fKeysT, opRevT, iEnumT, keyOf, keyV, opIsBl, opNotBl, dictK, st_NoneType_bool, st_NoneType_int, st_NoneType_str, st_NoneType_tuple, st_NoneType_list, st_NoneType_dict, st_bool_bool, st_bool_int, st_bool_str, st_bool_tuple, st_bool_list, st_bool_dict, st_int_bool, st_int_int, st_int_str, st_int_tuple, st_int_list, st_int_dict, st_str_bool, st_str_int, st_str_str, st_str_tuple, st_str_list, st_str_dict, st_tuple_bool, st_tuple_int, st_tuple_str, st_tuple_tuple, st_tuple_list, st_tuple_dict, st_list_bool, st_list_int, st_list_str, st_list_tuple, st_list_list, st_list_dict, st_dict_bool, st_dict_int, st_dict_str, st_dict_tuple, st_dict_list, st_dict_dict, $ts,*])
local macro_rules
  | `(tactic| simp only [ewd]) => `(tactic| simp only [sSeq, sAsg, sIf, sRet, sRetN, sExpr, sNext, sPar, sPar3, sBk, sCt, sFor, sPut, gNm, gTp, gsCons, gsNil, xVar, xC, xOp, xUn, xCons, xNil, xArgs, xCall, xTup, xLst, xBox, boxM, xIf, xAnd, xOr, xNot, xB, xAndT, xOrT, xNotT, xAppend, xPop, xPopAt, xExtend, xExtendT, xSlL, xPart, xNoPart, iSeq, iRange1, iRange2, cYes, seqOf, listOf, isLstC, runDef, sBegin, List.map_cons, List.map_nil, List.length_cons, List.length_nil, List.getElem?_cons_zero, List.getElem?_cons_succ, List.getElem?_nil, List.set_cons_zero, List.set_cons_succ, List.cons_append, List.nil_append, List.append_nil, Nat.sub_self, Nat.zero_add, Nat.reduceAdd, Nat.reduceSub, Nat.add_one_sub_one, List.replicate_zero, List.replicate_succ, Option.map_some, if_true, if_false, decide_true, decide_false, Bool.not_true, Bool.not_false, Bool.true_or, Bool.false_or, Bool.or_true, Bool.or_false, Bool.true_and, Bool.false_and, Bool.and_true, Bool.and_false, beq_self_eq_true, opAdd, opSub, opNeg, opLt, opLe, opGt, opGe, fLen, fAbs, fMax2, fMin2, fIsi, tyN, fList, fTuple, fDictP, opCat, opCatT, lstC, fKeys, fKeysS, fSorted, xPairs, xDisp, xUpdate, sForK, gLp, fKeysT, opRevT, iEnumT, keyOf, keyV, opIsBl, opNotBl, dictK, st_NoneType_bool, st_NoneType_int, st_NoneType_str, st_NoneType_tuple, st_NoneType_list, st_NoneType_dict, st_bool_bool, st_bool_int, st_bool_str, st_bool_tuple, st_bool_list, st_bool_dict, st_int_bool, st_int_int, st_int_str, st_int_tuple, st_int_list, st_int_dict, st_str_bool, st_str_int, st_str_str, st_str_tuple, st_str_list, st_str_dict, st_tuple_bool, st_tuple_int, st_tuple_str, st_tuple_tuple, st_tuple_list, st_tuple_dict, st_list_bool, st_list_int, st_list_str, st_list_tuple, st_list_list, st_list_dict, st_dict_bool, st_dict_int, st_dict_str, st_dict_tuple, st_dict_list, st_dict_dict])
  | `(tactic| simp only [ewd, $ts,*]) => `(tactic| simp only [sSeq, sAsg, sIf, sRet, sRetN, sExpr, sNext, sPar, sPar3, sBk, sCt, sFor, sPut, gNm, gTp, gsCons, gsNil, xVar, xC, xOp, xUn, xCons, xNil, xArgs, xCall, xTup, xLst, xBox, boxM, xIf, xAnd, xOr, xNot, xB, xAndT, xOrT, xNotT, xAppend, xPop, xPopAt, xExtend, xExtendT, xSlL, xPart, xNoPart, iSeq, iRange1, iRange2, cYes, seqOf, listOf, isLstC, runDef, sBegin, List.map_cons, List.map_nil, List.length_cons, List.length_nil, List.getElem?_cons_zero, List.getElem?_cons_succ, List.getElem?_nil, List.set_cons_zero, List.set_cons_succ, List.cons_append, List.nil_append, List.append_nil, Nat.sub_self, Nat.zero_add, Nat.reduceAdd, Nat.reduceSub, Nat.add_one_sub_one, List.replicate_zero, List.replicate_succ, Option.map_some, if_true, if_false, decide_true, decide_false, Bool.not_true, Bool.not_false, Bool.true_or, Bool.false_or, Bool.or_true, Bool.or_false, Bool.true_and, Bool.false_and, Bool.and_true, Bool.and_false, beq_self_eq_true, opAdd, opSub, opNeg, opLt, opLe, opGt, opGe, fLen, fAbs, fMax2, fMin2, fIsi, tyN, fList, fTuple, fDictP, opCat, opCatT, lstC, fKeys, fKeysS, fSorted, xPairs, xDisp, xUpdate, sForK, gLp, fKeysT, opRevT, iEnumT, keyOf, keyV, opIsBl, opNotBl, dictK, st_NoneType_bool, st_NoneType_int, st_NoneType_str, st_NoneType_tuple, st_NoneType_list, st_NoneType_dict, st_bool_bool, st_bool_int, st_bool_str, st_bool_tuple, st_bool_list, st_bool_dict, st_int_bool, st_int_int, st_int_str, st_int_tuple, st_int_list, st_int_dict, st_str_bool, st_str_int, st_str_str, st_str_tuple, st_str_list, st_str_dict, st_tuple_bool, st_tuple_int, st_tuple_str, st_tuple_tuple, st_tuple_list, st_tuple_dict, st_list_bool, st_list_int, st_list_str, st_list_tuple, st_list_list, st_list_dict, st_dict_bool, st_dict_int, st_dict_str, st_dict_tuple, st_dict_list, st_dict_dict, $ts,*])
local macro_rules
  | `(tactic| simp only [ewc]) => `(tactic| simp only [sSeq, sAsg, sIf, sRet, sRetN, sExpr, sNext, sPar, sPar3, sBk, sCt, sFor, sPut, gNm, gTp, gsCons, gsNil, xVar, xC, xOp, xUn, xCons, xNil, xArgs, xCall, xTup, xLst, xBox, boxM, xIf, xAnd, xOr, xNot, xB, xAndT, xOrT, xNotT, xAppend, xPop, xPopAt, xExtend, xExtendT, xSlL, xPart, xNoPart, iSeq, iRange1, iRange2, cYes, seqOf, listOf, isLstC, runDef, sBegin, List.map_cons, List.map_nil, List.length_cons, List.length_nil, List.getElem?_cons_zero, List.getElem?_cons_succ, List.getElem?_nil, List.set_cons_zero, List.set_cons_succ, List.cons_append, List.nil_append, List.append_nil, Nat.sub_self, Nat.zero_add, Nat.reduceAdd, Nat.reduceSub, Nat.add_one_sub_one, List.replicate_zero, List.replicate_succ, Option.map_some, if_true, if_false, decide_true, decide_false, Bool.not_true, Bool.not_false, Bool.true_or, Bool.false_or, Bool.or_true, Bool.or_false, Bool.true_and, Bool.false_and, Bool.and_true, Bool.and_false, beq_self_eq_true])
  | `(tactic| simp only [ewc, $ts,*]) => `(tactic| simp only [sSeq, sAsg, sIf, sRet, sRetN, sExpr, sNext, sPar, sPar3, sBk, sCt, sFor, sPut, gNm, gTp, gsCons, gsNil, xVar, xC, xOp, xUn, xCons, xNil, xArgs, xCall, xTup, xLst, xBox, boxM, xIf, xAnd, xOr, xNot, xB, xAndT, xOrT, xNotT, xAppend, xPop, xPopAt, xExtend, xExtendT, xSlL, xPart, xNoPart, iSeq, iRange1, iRange2, cYes, seqOf, listOf, isLstC, runDef, sBegin, List.map_cons, List.map_nil, List.length_cons, List.length_nil, List.getElem?_cons_zero, List.getElem?_cons_succ, List.getElem?_nil, List.set_cons_zero, List.set_cons_succ, List.cons_append, List.nil_append, List.append_nil, Nat.sub_self, Nat.zero_add, Nat.reduceAdd, Nat.reduceSub, Nat.add_one_sub_one, List.replicate_zero, List.replicate_succ, Option.map_some, if_true, if_false, decide_true, decide_false, Bool.not_true, Bool.not_false, Bool.true_or, Bool.false_or, Bool.or_true, Bool.or_false, Bool.true_and, Bool.false_and, Bool.and_true, Bool.and_false, beq_self_eq_true, $ts,*])
local macro_rules
  | `(tactic| show wp1) => `(tactic| first | ((with_reducible apply gd_Wp); first | (with_reducible apply wp_seq) | (with_reducible apply wp_try) | ((with_reducible apply wp_catch_t); (focus rfl)) | ((with_reducible apply wp_catch_f); (focus rfl)) | (with_reducible apply wp_asg) | (with_reducible apply wp_expr) | (with_reducible apply wp_if) | (with_reducible apply wp_ret) | (with_reducible apply wp_retN) | (with_reducible apply wp_next) | (with_reducible apply wp_bk) | (with_reducible apply wp_ct) | (with_reducible apply wp_put) | (with_reducible apply wp_par) | (with_reducible apply wp_par3) | (with_reducible apply wp_for)) | ((with_reducible apply gd_kS); first | (with_reducible apply kS_nx) | (with_reducible apply kS_rt) | (with_reducible apply kS_bk) | (with_reducible apply kS_ct)) | ((with_reducible apply gd_We); first | (with_reducible apply we_c) | (with_reducible apply we_op) | (with_reducible apply we_call) | (with_reducible apply we_args) | (with_reducible apply we_un) | (with_reducible apply we_tup) | (with_reducible apply we_tupR) | (with_reducible apply we_lst) | (with_reducible apply we_box) | (with_reducible apply we_boxl) | (with_reducible apply we_boxk) | (with_reducible apply we_boxt) | (with_reducible apply we_if) | (with_reducible apply we_and) | (with_reducible apply we_or) | (with_reducible apply we_not) | (with_reducible apply we_chain) | ((with_reducible apply we_lc'); (focus (simp only [wipeM, List.set_cons_zero, List.set_cons_succ]; first | done | rfl))) | (with_reducible apply we_slL) | ((with_reducible apply we_var); (focus rfl))) | (with_reducible apply wa_cons) | (with_reducible apply wa_nil) | ((with_reducible apply gd_Wv); first | (with_reducible apply wv_revL) | (with_reducible apply wv_add) | (with_reducible apply wv_sub) | (with_reducible apply wv_neg) | (with_reducible apply wv_lt) | (with_reducible apply wv_le) | (with_reducible apply wv_gt) | (with_reducible apply wv_ge) | (with_reducible apply wv_eqii) | (with_reducible apply wv_neii) | (with_reducible apply wv_isbl) | (with_reducible apply wv_notbl) | ((with_reducible apply gd_Len); first | (with_reducible apply wv_lenL) | (with_reducible apply wv_lenT) | (with_reducible apply wv_lenR) | (with_reducible apply wv_lenK)) | (with_reducible apply wv_abs) | (with_reducible apply wv_max) | (with_reducible apply wv_min) | ((with_reducible apply gd_List); first | (with_reducible apply wv_listL) | (with_reducible apply wv_listT) | (with_reducible apply wv_listR)) | ((with_reducible apply gd_Tup); first | (with_reducible apply wv_tupL) | (with_reducible apply wv_tupT) | (with_reducible apply wv_tupR)) | ((with_reducible apply gd_Ix); first | (with_reducible apply wv_ixL) | (with_reducible apply wv_ixT) | (with_reducible apply wv_ixR) | (with_reducible apply wv_ixP0) | (with_reducible apply wv_ixP1)) | ((with_reducible apply gd_At); first | (with_reducible apply wv_at0) | (with_reducible apply wv_at1) | (with_reducible apply wv_at2)) | ((with_reducible apply gd_In); first | (with_reducible apply wv_inL) | (with_reducible apply wv_inT) | (with_reducible apply wv_inR) | (with_reducible apply wv_inW)) | ((with_reducible apply gd_NIn); first | (with_reducible apply wv_ninL) | (with_reducible apply wv_ninT) | (with_reducible apply wv_ninR) | (with_reducible apply wv_ninW)) | (with_reducible apply wv_keysSW) | (with_reducible apply wv_keysTW) | (with_reducible apply wv_keysLW) | ((with_reducible apply gd_Srt); first | (with_reducible apply wv_sortL) | (with_reducible apply wv_sortT) | (with_reducible apply wv_sortR) | (with_reducible apply wv_sortP)) | (with_reducible apply wv_neP) | (with_reducible apply wv_intB) | (with_reducible apply wv_intI) | (with_reducible apply wv_countL) | (with_reducible apply wv_isN) | (with_reducible apply wv_notN) | ((with_reducible apply wv_mod); (focus omega)) | ((with_reducible apply wv_div); (focus omega); (focus omega)) | ((with_reducible apply wv_isi); (focus rfl); (focus (simp only [st_NoneType_bool, st_NoneType_int, st_NoneType_str, st_NoneType_tuple, st_NoneType_list, st_NoneType_dict, st_bool_bool, st_bool_int, st_bool_str, st_bool_tuple, st_bool_list, st_bool_dict, st_int_bool, st_int_int, st_int_str, st_int_tuple, st_int_list, st_int_dict, st_str_bool, st_str_int, st_str_str, st_str_tuple, st_str_list, st_str_dict, st_tuple_bool, st_tuple_int, st_tuple_str, st_tuple_tuple, st_tuple_list, st_tuple_dict, st_list_bool, st_list_int, st_list_str, st_list_tuple, st_list_list, st_list_dict, st_dict_bool, st_dict_int, st_dict_str, st_dict_tuple, st_dict_list, st_dict_dict]; first | done | rfl)))) | ((with_reducible apply gd_Wt); first | (with_reducible apply wt_b) | (with_reducible apply wt_and) | (with_reducible apply wt_or) | (with_reducible apply wt_not) | (with_reducible apply wt_yes)) | ((with_reducible apply gd_kB); first | (with_reducible apply kB_t) | (with_reducible apply kB_f) | (with_reducible apply kB_nt) | (with_reducible apply kB_nf) | (with_reducible apply kB_tt) | (with_reducible apply kB_ff) | (with_reducible apply kB_tf) | (with_reducible apply kB_ft) | (with_reducible apply kB_ntt) | (with_reducible apply kB_nff) | (with_reducible apply kB_ntf) | (with_reducible apply kB_nft)) | ((with_reducible apply gd_Wg); first | ((with_reducible apply wg_nm'); (focus (simp only [List.set_cons_zero, List.set_cons_succ]; first | done | rfl))) | (with_reducible apply wg_cons) | (with_reducible apply wg_nil) | (with_reducible apply wg_pair) | ((with_reducible apply wg_tp); (focus rfl)) | ((with_reducible apply wg_rw); (focus rfl)) | ((with_reducible apply wg_lp); (focus rfl))) | ((with_reducible apply gd_Wi); first | (with_reducible apply wi_seq) | (with_reducible apply wi_rng1) | (with_reducible apply wi_rng2) | (with_reducible apply wi_enumT) | (with_reducible apply wi_rev) | (with_reducible apply wi_zipL) | (with_reducible apply wi_enumL)) | ((with_reducible apply gd_Wx); first | (with_reducible apply wx_seq) | (with_reducible apply wx_lift) | (with_reducible apply wx_if) | (with_reducible apply wx_raise) | (with_reducible apply wx_ret) | (with_reducible apply wx_asg) | (with_reducible apply wx_expr)) | (with_reducible apply kX_nx) | (with_reducible apply kX_rt) | (with_reducible apply kX_ex) | (with_reducible apply kV2_val) | (with_reducible apply kV2_ex) | (with_reducible apply kRX_rt) | (with_reducible apply kRX_nx) | (with_reducible apply kRX_ex) | (with_reducible apply kT_ok) | ((with_reducible apply kT_ex); (focus decide)) | (with_reducible apply kV_bl) | (with_reducible apply kR_rt) | (with_reducible apply kR_nx) | (with_reducible apply kI_row) | (with_reducible apply kI_tup) | (with_reducible apply kI_lst) | (with_reducible apply kRv_lst) | (with_reducible apply kRv_tup) | (with_reducible apply kRv_row) | (with_reducible apply kE_tup) | (with_reducible apply kL_lst) | (with_reducible apply kF_vals) | (with_reducible apply kF_cell) | (with_reducible apply kC_vals) | (with_reducible apply kC_cell) | (with_reducible apply wo_none) | (with_reducible apply wo_part) | (with_reducible apply kP_int) | ((with_reducible apply kN_int); (focus (constructor <;> omega))))
local macro_rules
  | `(tactic| show wp) => `(tactic| repeat (show wp1))
local macro_rules
  | `(tactic| show wr $e) => `(tactic| ((first | refine we_of $e ?_ | refine wv_of $e ?_ | refine wp_of $e ?_ | refine wm_of $e ?_ | refine wt_of $e ?_ | refine wa_of $e ?_ | refine wg_of $e ?_ | refine wi_of $e ?_); show wp))
noncomputable section
def subC (c d : Nat) : Bool := ([[true, false, true, false], [false, true, true, false], [false, false, true, false], [false, false, true, true]].getD c []).getD d false
abbrev c_NotFlat : Nat := 0
abbrev c_TooSmall : Nat := 1
abbrev c_WallsError : Nat := 2
abbrev c_NotFilled : Nat := 3
--@raises filled
--@toldX filled
--@fresh _law_full _law_begun _law_twin _law_changed _law_beside _law_crossed parts faces steps_of face_from within ties cut_face closed_rows
--@told _law_some_full part_of _law_refused _law_crooked
--@opt faces dT=seen
--@opt * listdefs=_law_names
--@opt _law_changed tups=_law_row rowd=1
--@opt _law_beside row0=1
--@opt law rowv=1

def b__law_mixed : XS := (sSeq (sAsg (xOp opMod (xOp opAdd (xOp opAdd (xOp opMul (xOp opMod (xVar 0) (xC (.int 2147483647))) (xC (.int 48271))) (xOp opMul (xOp opMul (xC (.int 7919)) (xVar 1)) (xVar 1))) (xC (.int 104729))) (xC (.int 2147483647))) (gNm 2))
    (sRet (xOp opMod (xOp opMul (xVar 2) (xVar 2)) (xC (.int 2147483629)))))
def g__law_mixed : Fn := runDef 3 b__law_mixed
theorem d__law_mixed {x0 x1 : MV} {h : MH} {R : MV → MH → Prop} (w : Wp (b__law_mixed [some x0, some x1, none] h) fun f _ h1 => kR f fun v => R v h1) : We (g__law_mixed [x0, x1] h) R := we_def w

def mixOf (c k : Int) : Int :=
  let n := (c % 2147483647 * 48271 + 7919 * k * k + 104729) % 2147483647
  n * n % 2147483629
theorem mixed_at (c k : Int) (h : MH) (k0 : -4611686018427387904 < k) (k1 : k < 4611686018427387904) : g__law_mixed [.int c, .int k] h = some (.int (mixOf c k), h) := by
  have e1 := Int.emod_nonneg c (show (2147483647 : Int) ≠ 0 by decide)
  have e2 := Int.emod_lt_of_pos c (show (0 : Int) < 2147483647 by decide)
  have hn : ∀ z : Int, 0 ≤ z % 2147483647 ∧ z % 2147483647 < 2147483647 := fun z => ⟨Int.emod_nonneg z (by decide), Int.emod_lt_of_pos z (by decide)⟩
  unfold g__law_mixed b__law_mixed
  simp (discharger := omega) only [mod_ok, mul_ok, sSeq, sAsg, sIf, sRet, sRetN, sExpr, sNext, sPar, sPar3, sBk, sCt, sFor, sPut, gNm, gTp, gsCons, gsNil, xVar, xC, xOp, xUn, xCons, xNil, xArgs, xCall, xTup, xLst, xBox, boxM, xIf, xAnd, xOr, xNot, xB, xAndT, xOrT, xNotT, xAppend, xPop, xPopAt, xExtend, xExtendT, xSlL, xPart, xNoPart, iSeq, iRange1, iRange2, cYes, seqOf, listOf, isLstC, runDef, sBegin, List.map_cons, List.map_nil, List.length_cons, List.length_nil, List.getElem?_cons_zero, List.getElem?_cons_succ, List.getElem?_nil, List.set_cons_zero, List.set_cons_succ, List.cons_append, List.nil_append, List.append_nil, Nat.sub_self, Nat.zero_add, Nat.reduceAdd, Nat.reduceSub, Nat.add_one_sub_one, List.replicate_zero, List.replicate_succ, Option.map_some, if_true, if_false, decide_true, decide_false, Bool.not_true, Bool.not_false, Bool.true_or, Bool.false_or, Bool.or_true, Bool.or_false, Bool.true_and, Bool.false_and, Bool.and_true, Bool.and_false, beq_self_eq_true, opAdd, opSub, opNeg, opLt, opLe, opGt, opGe, opIx, fLen, fAbs, fMax2, fMin2, fIsi, tyN, fList, fTuple, fDictP, opCat, opCatT, lstC, fKeys, fKeysS, fSorted, xPairs, xDisp, xUpdate, sForK, gLp, fKeysT, opRevT, iEnumT, keyOf, keyV, opIsBl, opNotBl, dictK, st_NoneType_bool, st_NoneType_int, st_NoneType_str, st_NoneType_tuple, st_NoneType_list, st_NoneType_dict, st_bool_bool, st_bool_int, st_bool_str, st_bool_tuple, st_bool_list, st_bool_dict, st_int_bool, st_int_int, st_int_str, st_int_tuple, st_int_list, st_int_dict, st_str_bool, st_str_int, st_str_str, st_str_tuple, st_str_list, st_str_dict, st_tuple_bool, st_tuple_int, st_tuple_str, st_tuple_tuple, st_tuple_list, st_tuple_dict, st_list_bool, st_list_int, st_list_str, st_list_tuple, st_list_list, st_list_dict, st_dict_bool, st_dict_int, st_dict_str, st_dict_tuple, st_dict_list, st_dict_dict]
  rfl
theorem mix_rng (c k : Int) : 0 ≤ mixOf c k ∧ mixOf c k < 2147483629 := ⟨Int.emod_nonneg _ (by decide), Int.emod_lt_of_pos _ (by decide)⟩
/-- draws -/
def Drawn (ds : List Int) : Prop := ∀ d ∈ ds, 0 ≤ d ∧ d < 2147483629
theorem Drawn.snoc {ds : List Int} {d : Int} (h : Drawn ds) (h0 : 0 ≤ d) (h1 : d < 2147483629) : Drawn (ds ++ [d]) := fun x hx => by
  rcases List.mem_append.mp hx with q | q
  · exact h x q
  · rw [List.mem_singleton.mp q]; exact ⟨h0, h1⟩
def B2__law_draws : XS := (sExpr (xAppend (xVar 1) (xCall g__law_mixed (xCons (xCall g__law_mixed (xCons (xVar 3) (xCons (xOp opAdd (xOp opMul (xC (.int 3)) (xVar 4)) (xC (.int 1))) xNil))) (xCons (xOp opAdd (xOp opAdd (xVar 4) (xVar 2)) (xC (.int 2))) xNil)))))
def W3__law_draws : XT := (xAndT (xB (xOp opGe (xVar 3) (xOp opPow (xC (.int 10)) (xC (.int 18))))) (xB (xOp opLt (xArgs fLen (xCons (xVar 1) xNil)) (xC (.int 900)))))
def B3__law_draws : XS := (sSeq (sExpr (xAppend (xVar 1) (xOp opMod (xVar 3) (xC (.int 2147483629)))))
    (sAsg (xOp opDiv (xVar 3) (xC (.int 2147483629))) (gNm 3)))
def B1__law_draws : XS := (sSeq (sAsg (xArgs fAbs (xCons (xOp opIx (xVar 0) (xVar 2)) xNil)) (gNm 3))
    (sSeq (sIf (xB (xOp opLt (xVar 3) (xOp opPow (xC (.int 10)) (xC (.int 18))))) (sFor (iRange1 (xC (.int 12))) (gNm 4) B2__law_draws) sNext)
    (sSeq (sWhile W3__law_draws B3__law_draws)
    (sIf (xB (xOp opGe (xVar 3) (xC (.int 2147483629)))) (sExpr (xAppend (xVar 1) (xOp opMod (xVar 3) (xC (.int 2147483629))))) sNext))))
def b__law_draws : XS := (sSeq (sAsg (xBox (xLst xNil)) (gNm 1))
    (sSeq (sFor (iRange1 (xArgs fMin2 (xCons (xArgs fLen (xCons (xVar 0) xNil)) (xCons (xC (.int 63)) xNil)))) (gNm 2) B1__law_draws)
    (sRet (xVar 1))))
def g__law_draws : Fn := runDef 5 b__law_draws
theorem d__law_draws {x0 : MV} {h : MH} {R : MV → MH → Prop} (w : Wp (b__law_draws [some x0, none, none, none, none] h) fun f _ h1 => kR f fun v => R v h1) : We (g__law_draws [x0] h) R := we_def w

theorem pow18 (h : MH) : opPow h (.int 10) (.int 18) = some (.int 1000000000000000000) := rfl
/-- the twelve of a small cell -/
theorem draws_3 (ns : List Int) (h : MH) (k : Nat) (c : Int) (ds : List Int) (o4 : Option MV) (hk : k < 63) (hd : Drawn ds) (hlen : ds.length ≤ 912 + 13 * k) :
    ∃ ds2 o4', forGo (gNm 4) B2__law_draws (rngM 0 12) [some (.scr ns), some (.ref h.length), some (.int (k : Nat)), some (.int c), o4] (h ++ [.lst (ds.map .int)])
      = some (.nx, [some (.scr ns), some (.ref h.length), some (.int (k : Nat)), some (.int c), o4'], h ++ [.lst (ds2.map .int)]) ∧ Drawn ds2 ∧ ds2.length ≤ ds.length + 12 := by
  obtain ⟨s', h', e, ds2, o4', rfl, rfl, d2, l2⟩ := forGo_run (g := gNm 4) (b := B2__law_draws)
    (fun i s h1 => ∃ ds2 o4', s = [some (.scr ns), some (.ref h.length), some (.int (k : Nat)), some (.int c), o4'] ∧ h1 = h ++ [.lst (ds2.map .int)] ∧ Drawn ds2 ∧ ds2.length ≤ ds.length + i)
    (rngM 0 12) 0 _ _ ⟨ds, o4, rfl, rfl, hd, by omega⟩ (by
    rintro i x s h1 ex ⟨ds2, o4', rfl, rfl, d2, l2⟩
    obtain ⟨rfl, hi⟩ := rng_at ex
    have hz : ds2.length < szLine := by unfold szLine; omega
    refine ⟨_, _, .nx, _, _, rfl, ?_, .inl rfl, ds2 ++ [mixOf (mixOf c (3 * (0 + (i : Nat)) + 1)) (0 + (i : Nat) + (k : Nat) + 2)], some (.int (0 + (i : Nat))), rfl, rfl, d2.snoc (mix_rng _ _).1 (mix_rng _ _).2, by simp; omega⟩
    simp (discharger := omega) only [B2__law_draws, mod_ok, mul_ok, mixed_at, sSeq, sAsg, sIf, sRet, sRetN, sExpr, sNext, sPar, sPar3, sBk, sCt, sFor, sPut, gNm, gTp, gsCons, gsNil, xVar, xC, xOp, xUn, xCons, xNil, xArgs, xCall, xTup, xLst, xBox, boxM, xIf, xAnd, xOr, xNot, xB, xAndT, xOrT, xNotT, xAppend, xPop, xPopAt, xExtend, xExtendT, xSlL, xPart, xNoPart, iSeq, iRange1, iRange2, cYes, seqOf, listOf, isLstC, runDef, sBegin, List.map_cons, List.map_nil, List.length_cons, List.length_nil, List.getElem?_cons_zero, List.getElem?_cons_succ, List.getElem?_nil, List.set_cons_zero, List.set_cons_succ, List.cons_append, List.nil_append, List.append_nil, Nat.sub_self, Nat.zero_add, Nat.reduceAdd, Nat.reduceSub, Nat.add_one_sub_one, List.replicate_zero, List.replicate_succ, Option.map_some, if_true, if_false, decide_true, decide_false, Bool.not_true, Bool.not_false, Bool.true_or, Bool.false_or, Bool.or_true, Bool.or_false, Bool.true_and, Bool.false_and, Bool.and_true, Bool.and_false, beq_self_eq_true, opAdd, opSub, opNeg, opLt, opLe, opGt, opGe, opIx, fLen, fAbs, fMax2, fMin2, fIsi, tyN, fList, fTuple, fDictP, opCat, opCatT, lstC, fKeys, fKeysS, fSorted, xPairs, xDisp, xUpdate, sForK, gLp, fKeysT, opRevT, iEnumT, keyOf, keyV, opIsBl, opNotBl, dictK, st_NoneType_bool, st_NoneType_int, st_NoneType_str, st_NoneType_tuple, st_NoneType_list, st_NoneType_dict, st_bool_bool, st_bool_int, st_bool_str, st_bool_tuple, st_bool_list, st_bool_dict, st_int_bool, st_int_int, st_int_str, st_int_tuple, st_int_list, st_int_dict, st_str_bool, st_str_int, st_str_str, st_str_tuple, st_str_list, st_str_dict, st_tuple_bool, st_tuple_int, st_tuple_str, st_tuple_tuple, st_tuple_list, st_tuple_dict, st_list_bool, st_list_int, st_list_str, st_list_tuple, st_list_list, st_list_dict, st_dict_bool, st_dict_int, st_dict_str, st_dict_tuple, st_dict_list, st_dict_dict, get_last, set_last, List.length_map, hz, if_true, List.map_append])
  rw [rng_len] at l2
  exact ⟨ds2, o4', e, d2, by omega⟩
/-- the places of a great one -/
theorem draws_w (ns : List Int) (h : MH) (k : Nat) (c : Int) (ds : List Int) (o4 : Option MV) (hc : 0 ≤ c) (hd : Drawn ds) (hlen : ds.length ≤ 912 + 13 * k + 12) :
    ∃ (ds2 : List Int) (c2 : Int), sWhile W3__law_draws B3__law_draws [some (.scr ns), some (.ref h.length), some (.int (k : Nat)), some (.int c), o4] (h ++ [.lst (ds.map .int)])
      = some (.nx, [some (.scr ns), some (.ref h.length), some (.int (k : Nat)), some (.int c2), o4], h ++ [.lst (ds2.map .int)]) ∧ Drawn ds2 ∧ (ds2.length ≤ ds.length ∨ ds2.length ≤ 900) := by
  obtain ⟨s', h', e, ds2, c2, rfl, rfl, d2, l2⟩ := sWhile_run (c := W3__law_draws) (b := B3__law_draws)
    (fun s h1 => ∃ (ds2 : List Int) (c2 : Int), s = [some (.scr ns), some (.ref h.length), some (.int (k : Nat)), some (.int c2), o4] ∧ h1 = h ++ [.lst (ds2.map .int)] ∧ 0 ≤ c2 ∧ Drawn ds2 ∧ (ds2.length ≤ ds.length ∨ ds2.length ≤ 900))
    (fun s h1 => ∃ (ds2 : List Int) (c2 : Int), s = [some (.scr ns), some (.ref h.length), some (.int (k : Nat)), some (.int c2), o4] ∧ h1 = h ++ [.lst (ds2.map .int)] ∧ Drawn ds2 ∧ (ds2.length ≤ ds.length ∨ ds2.length ≤ 900))
    (fun _ h1 => match h1[h.length]? with | some (.lst xs) => 1000 - xs.length | _ => 0)
    (by
      rintro s h1 ⟨ds2, c2, rfl, rfl, hc2, d2, l2⟩
      by_cases q : 1000000000000000000 ≤ c2
      · by_cases q2 : ds2.length < 900
        · have hz : ds2.length < szLine := by unfold szLine; omega
          have q3 : ((ds2.length : Nat) : Int) < 900 := by omega
          refine .inr ⟨h ++ [.lst (ds2.map .int)], .nx, _, _, ?_, ?_, .inl rfl, ⟨ds2 ++ [c2 % 2147483629], c2 / 2147483629, rfl, rfl, Int.ediv_nonneg hc2 (by decide), d2.snoc (Int.emod_nonneg _ (by decide)) (Int.emod_lt_of_pos _ (by decide)), .inr (by simp; omega)⟩, ?_⟩
          · simp only [ews, W3__law_draws, get_last, pow18, List.length_map, q, q3]
          · simp (discharger := omega) only [B3__law_draws, sSeq, sAsg, sIf, sRet, sRetN, sExpr, sNext, sPar, sPar3, sBk, sCt, sFor, sPut, gNm, gTp, gsCons, gsNil, xVar, xC, xOp, xUn, xCons, xNil, xArgs, xCall, xTup, xLst, xBox, boxM, xIf, xAnd, xOr, xNot, xB, xAndT, xOrT, xNotT, xAppend, xPop, xPopAt, xExtend, xExtendT, xSlL, xPart, xNoPart, iSeq, iRange1, iRange2, cYes, seqOf, listOf, isLstC, runDef, sBegin, List.map_cons, List.map_nil, List.length_cons, List.length_nil, List.getElem?_cons_zero, List.getElem?_cons_succ, List.getElem?_nil, List.set_cons_zero, List.set_cons_succ, List.cons_append, List.nil_append, List.append_nil, Nat.sub_self, Nat.zero_add, Nat.reduceAdd, Nat.reduceSub, Nat.add_one_sub_one, List.replicate_zero, List.replicate_succ, Option.map_some, if_true, if_false, decide_true, decide_false, Bool.not_true, Bool.not_false, Bool.true_or, Bool.false_or, Bool.or_true, Bool.or_false, Bool.true_and, Bool.false_and, Bool.and_true, Bool.and_false, beq_self_eq_true, opAdd, opSub, opNeg, opLt, opLe, opGt, opGe, opIx, fLen, fAbs, fMax2, fMin2, fIsi, tyN, fList, fTuple, fDictP, opCat, opCatT, lstC, fKeys, fKeysS, fSorted, xPairs, xDisp, xUpdate, sForK, gLp, fKeysT, opRevT, iEnumT, keyOf, keyV, opIsBl, opNotBl, dictK, st_NoneType_bool, st_NoneType_int, st_NoneType_str, st_NoneType_tuple, st_NoneType_list, st_NoneType_dict, st_bool_bool, st_bool_int, st_bool_str, st_bool_tuple, st_bool_list, st_bool_dict, st_int_bool, st_int_int, st_int_str, st_int_tuple, st_int_list, st_int_dict, st_str_bool, st_str_int, st_str_str, st_str_tuple, st_str_list, st_str_dict, st_tuple_bool, st_tuple_int, st_tuple_str, st_tuple_tuple, st_tuple_list, st_tuple_dict, st_list_bool, st_list_int, st_list_str, st_list_tuple, st_list_list, st_list_dict, st_dict_bool, st_dict_int, st_dict_str, st_dict_tuple, st_dict_list, st_dict_dict, get_last, set_last, mod_ok, div_ok, List.length_map, hz, if_true, List.map_append]
          · simp only [get_last, List.length_map, List.length_append, List.length_singleton]; omega
        · refine .inl ⟨h ++ [.lst (ds2.map .int)], ?_, ds2, c2, rfl, rfl, d2, l2⟩
          have q3 : ¬ ((ds2.length : Nat) : Int) < 900 := by omega
          simp only [ews, W3__law_draws, get_last, pow18, List.length_map, q, q3]
      · refine .inl ⟨h ++ [.lst (ds2.map .int)], ?_, ds2, c2, rfl, rfl, d2, l2⟩
        simp only [ews, W3__law_draws, get_last, pow18, q])
    [some (.scr ns), some (.ref h.length), some (.int (k : Nat)), some (.int c), o4] (h ++ [.lst (ds.map .int)]) ⟨ds, c, rfl, rfl, hc, hd, .inl (Nat.le_refl _)⟩
  exact ⟨ds2, c2, e, d2, l2⟩
theorem draws_at (ns : List Int) (hl : ns.length ≤ 63) (h : MH) : ∃ ds : List Int, g__law_draws [.scr ns] h = some (.ref h.length, h ++ [.lst (ds.map .int)]) ∧ Drawn ds ∧ ds.length ≤ 2000 := by
  obtain ⟨s', h', e, ds, o2, o3, o4, rfl, rfl, d2, l2⟩ := forGo_run (g := gNm 2) (b := B1__law_draws)
    (fun i s h1 => ∃ ds o2 o3 o4, s = [some (.scr ns), some (.ref h.length), o2, o3, o4] ∧ h1 = h ++ [.lst (ds.map .int)] ∧ Drawn ds ∧ ds.length ≤ 912 + 13 * i)
    (rngM 0 (min ns.length 63)) 0 [some (.scr ns), some (.ref h.length), none, none, none] (h ++ [.lst []]) ⟨[], none, none, none, rfl, rfl, (show Drawn [] from fun _ hm => by cases hm), by simp⟩ (by
    rintro i x s h1 ex ⟨ds, o2, o3, o4, rfl, rfl, d2, l2⟩
    rw [Nat.zero_add] at l2 ⊢
    obtain ⟨rfl, hi⟩ := rng_at ex
    rw [Int.zero_add]
    have hi2 : i < ns.length := by omega
    have ea : atM (ns.map MV.int) (i : Nat) = some (.int ns[i]) := at_nat (by rw [map_at, List.getElem?_eq_getElem hi2]; rfl)
    obtain ⟨c, hc, hc0⟩ : ∃ c : Int, (if ns[i] < 0 then -ns[i] else ns[i]) = c ∧ 0 ≤ c := ⟨_, rfl, by split <;> omega⟩
    -- small cells
    have st1 : ∃ (ds2 : List Int) (o4' : Option MV), (if c < 1000000000000000000 then forGo (gNm 4) B2__law_draws (rngM 0 12) [some (.scr ns), some (.ref h.length), some (.int (i : Nat)), some (.int c), o4] (h ++ [.lst (ds.map .int)]) else some (.nx, [some (.scr ns), some (.ref h.length), some (.int (i : Nat)), some (.int c), o4], h ++ [.lst (ds.map .int)]))
        = some (.nx, [some (.scr ns), some (.ref h.length), some (.int (i : Nat)), some (.int c), o4'], h ++ [.lst (ds2.map .int)]) ∧ Drawn ds2 ∧ ds2.length ≤ 912 + 13 * i + 12 := by
      by_cases q : c < 1000000000000000000
      · obtain ⟨ds2, o4', e1, e2, e3⟩ := draws_3 ns h i c ds o4 (by omega) d2 l2
        exact ⟨ds2, o4', by rw [if_pos q]; exact e1, e2, by omega⟩
      · exact ⟨ds, o4, by rw [if_neg q], d2, by omega⟩
    obtain ⟨ds2, o4', e2, d3, l3⟩ := st1
    obtain ⟨ds3, c3, e3, d4, l4⟩ := draws_w ns h i c ds2 o4' hc0 d3 l3
    have hz : ds3.length < szLine := by unfold szLine; omega
    have pre : B1__law_draws [some (.scr ns), some (.ref h.length), some (.int (i : Nat)), o3, o4] (h ++ [.lst (ds.map .int)]) = (if 2147483629 ≤ c3 then some (.nx, [some (.scr ns), some (.ref h.length), some (.int (i : Nat)), some (.int c3), o4'], h ++ [.lst ((ds3 ++ [c3 % 2147483629]).map .int)]) else some (.nx, [some (.scr ns), some (.ref h.length), some (.int (i : Nat)), some (.int c3), o4'], h ++ [.lst (ds3.map .int)])) := by
      have t12 : (-(2 : Int) ^ 62 ≤ 12 ∧ (12 : Int) < 2 ^ 62) := by decide
      have n12 : (12 : Int).toNat = 12 := rfl
      simp only [ews, B1__law_draws, ea, hc, pow18, t12, and_self, if_true, n12]
      by_cases q : c < 1000000000000000000
      · rw [if_pos q] at e2
        simp only [ews, q, decide_true, e2, e3]
        by_cases q2 : 2147483629 ≤ c3
        · simp (discharger := omega) only [q2, sSeq, sAsg, sIf, sRet, sRetN, sExpr, sNext, sPar, sPar3, sBk, sCt, sFor, sPut, gNm, gTp, gsCons, gsNil, xVar, xC, xOp, xUn, xCons, xNil, xArgs, xCall, xTup, xLst, xBox, boxM, xIf, xAnd, xOr, xNot, xB, xAndT, xOrT, xNotT, xAppend, xPop, xPopAt, xExtend, xExtendT, xSlL, xPart, xNoPart, iSeq, iRange1, iRange2, cYes, seqOf, listOf, isLstC, runDef, sBegin, List.map_cons, List.map_nil, List.length_cons, List.length_nil, List.getElem?_cons_zero, List.getElem?_cons_succ, List.getElem?_nil, List.set_cons_zero, List.set_cons_succ, List.cons_append, List.nil_append, List.append_nil, Nat.sub_self, Nat.zero_add, Nat.reduceAdd, Nat.reduceSub, Nat.add_one_sub_one, List.replicate_zero, List.replicate_succ, Option.map_some, if_true, if_false, decide_true, decide_false, Bool.not_true, Bool.not_false, Bool.true_or, Bool.false_or, Bool.or_true, Bool.or_false, Bool.true_and, Bool.false_and, Bool.and_true, Bool.and_false, beq_self_eq_true, opAdd, opSub, opNeg, opLt, opLe, opGt, opGe, opIx, fLen, fAbs, fMax2, fMin2, fIsi, tyN, fList, fTuple, fDictP, opCat, opCatT, lstC, fKeys, fKeysS, fSorted, xPairs, xDisp, xUpdate, sForK, gLp, fKeysT, opRevT, iEnumT, keyOf, keyV, opIsBl, opNotBl, dictK, st_NoneType_bool, st_NoneType_int, st_NoneType_str, st_NoneType_tuple, st_NoneType_list, st_NoneType_dict, st_bool_bool, st_bool_int, st_bool_str, st_bool_tuple, st_bool_list, st_bool_dict, st_int_bool, st_int_int, st_int_str, st_int_tuple, st_int_list, st_int_dict, st_str_bool, st_str_int, st_str_str, st_str_tuple, st_str_list, st_str_dict, st_tuple_bool, st_tuple_int, st_tuple_str, st_tuple_tuple, st_tuple_list, st_tuple_dict, st_list_bool, st_list_int, st_list_str, st_list_tuple, st_list_list, st_list_dict, st_dict_bool, st_dict_int, st_dict_str, st_dict_tuple, st_dict_list, st_dict_dict, get_last, set_last, mod_ok, List.length_map, hz, if_true, List.map_append]
        · simp only [ews, q2, if_false]
      · rw [if_neg q] at e2
        simp only [Option.some.injEq, Prod.mk.injEq, List.cons.injEq, true_and, and_true] at e2
        obtain ⟨rfl, e2⟩ := e2
        rw [← e2] at e3
        simp only [ews, q, decide_false, e3]
        by_cases q2 : 2147483629 ≤ c3
        · simp (discharger := omega) only [q2, sSeq, sAsg, sIf, sRet, sRetN, sExpr, sNext, sPar, sPar3, sBk, sCt, sFor, sPut, gNm, gTp, gsCons, gsNil, xVar, xC, xOp, xUn, xCons, xNil, xArgs, xCall, xTup, xLst, xBox, boxM, xIf, xAnd, xOr, xNot, xB, xAndT, xOrT, xNotT, xAppend, xPop, xPopAt, xExtend, xExtendT, xSlL, xPart, xNoPart, iSeq, iRange1, iRange2, cYes, seqOf, listOf, isLstC, runDef, sBegin, List.map_cons, List.map_nil, List.length_cons, List.length_nil, List.getElem?_cons_zero, List.getElem?_cons_succ, List.getElem?_nil, List.set_cons_zero, List.set_cons_succ, List.cons_append, List.nil_append, List.append_nil, Nat.sub_self, Nat.zero_add, Nat.reduceAdd, Nat.reduceSub, Nat.add_one_sub_one, List.replicate_zero, List.replicate_succ, Option.map_some, if_true, if_false, decide_true, decide_false, Bool.not_true, Bool.not_false, Bool.true_or, Bool.false_or, Bool.or_true, Bool.or_false, Bool.true_and, Bool.false_and, Bool.and_true, Bool.and_false, beq_self_eq_true, opAdd, opSub, opNeg, opLt, opLe, opGt, opGe, opIx, fLen, fAbs, fMax2, fMin2, fIsi, tyN, fList, fTuple, fDictP, opCat, opCatT, lstC, fKeys, fKeysS, fSorted, xPairs, xDisp, xUpdate, sForK, gLp, fKeysT, opRevT, iEnumT, keyOf, keyV, opIsBl, opNotBl, dictK, st_NoneType_bool, st_NoneType_int, st_NoneType_str, st_NoneType_tuple, st_NoneType_list, st_NoneType_dict, st_bool_bool, st_bool_int, st_bool_str, st_bool_tuple, st_bool_list, st_bool_dict, st_int_bool, st_int_int, st_int_str, st_int_tuple, st_int_list, st_int_dict, st_str_bool, st_str_int, st_str_str, st_str_tuple, st_str_list, st_str_dict, st_tuple_bool, st_tuple_int, st_tuple_str, st_tuple_tuple, st_tuple_list, st_tuple_dict, st_list_bool, st_list_int, st_list_str, st_list_tuple, st_list_list, st_list_dict, st_dict_bool, st_dict_int, st_dict_str, st_dict_tuple, st_dict_list, st_dict_dict, get_last, set_last, mod_ok, List.length_map, hz, if_true, List.map_append]
        · simp only [ews, q2, if_false]
    by_cases q : 2147483629 ≤ c3
    · rw [if_pos q] at pre
      exact ⟨_, _, .nx, _, _, rfl, pre, .inl rfl, ds3 ++ [c3 % 2147483629], _, _, _, rfl, rfl, d4.snoc (Int.emod_nonneg _ (by decide)) (Int.emod_lt_of_pos _ (by decide)), by simp; omega⟩
    · rw [if_neg q] at pre
      exact ⟨_, _, .nx, _, _, rfl, pre, .inl rfl, ds3, _, _, _, rfl, rfl, d4, by omega⟩)
  rw [rng_len] at l2
  refine ⟨ds, ?_, d2, by omega⟩
  have em : (if (63 : Int) < ((ns.length : Nat) : Int) then (63 : Int) else ((ns.length : Nat) : Int)) = ((min ns.length 63 : Nat) : Int) := by split <;> omega
  have em2 : (((min ns.length 63 : Nat) : Int)).toNat = min ns.length 63 := by omega
  have b0 : -(2 : Int) ^ 62 ≤ ((min ns.length 63 : Nat) : Int) ∧ ((min ns.length 63 : Nat) : Int) < 2 ^ 62 := by omega
  simp only [ews, g__law_draws, b__law_draws, List.length_map, gt_iff_lt, em, b0, and_self, if_true, em2, e]

def b__law_next : XS := (sSeq (sIf (xB (xOp opEq (xVar 0) (xLst xNil))) (sRet (xC (.int 0))) sNext)
    (sRet (xPopAt (xVar 0) (xC (.int 0)))))
def g__law_next : Fn := runDef 1 b__law_next
theorem d__law_next {x0 : MV} {h : MH} {R : MV → MH → Prop} (w : Wp (b__law_next [some x0] h) fun f _ h1 => kR f fun v => R v h1) : We (g__law_next [x0] h) R := we_def w

theorem next_at (ds : List Int) (d : Nat) (h : MH) (e : h[d]? = some (.lst (ds.map .int))) : g__law_next [.ref d] h = some (.int (ds.headD 0), h.set d (.lst (ds.tail.map .int))) := by
  have hl : d < h.length := (List.getElem?_eq_some_iff.mp e).1
  cases ds with
  | nil =>
    have eq1 : opEq h (.ref d) (.lst []) = some (.bl true) := eq_cell [] e
    have ss : h.set d (.lst []) = h := set_same e
    simp only [ews, g__law_next, b__law_next, eq1, List.headD_nil, List.tail_nil, ss]
  | cons x xs =>
    have eq1 : opEq h (.ref d) (.lst []) = some (.bl false) := eq_cell [] e
    have z0 : (-(2 : Int) ^ 62 ≤ 0 ∧ (0 : Int) < 2 ^ 62) := by decide
    have i0 : ixM (xs.length + 1) 0 = some 0 := by unfold ixM; rw [if_pos (by omega), if_pos (by omega)]; rfl
    simp only [ews, g__law_next, b__law_next, eq1, e, List.map_cons, List.length_map, z0, and_self, if_true, i0, List.eraseIdx_cons_zero, List.headD_cons, List.tail_cons]
theorem Drawn.tail {ds : List Int} (h : Drawn ds) : Drawn ds.tail := fun x hx => h x (List.mem_of_mem_tail hx)
theorem Drawn.head {ds : List Int} (h : Drawn ds) : 0 ≤ ds.headD 0 ∧ ds.headD 0 < 2147483629 := by
  cases ds with
  | nil => exact ⟨by decide, by decide⟩
  | cons x xs => exact h x List.mem_cons_self
--@fresh _law_full
/-! webs that have grown point by point -/
def sumR (W : WL) : Nat := (W.map fun p => p.2.length).sum
/-- what a three-cornered web that has grown point by point has more -/
structure Grw (W : WL) : Prop where
  sum : sumR W + 12 = 6 * W.length
  con : ∀ Q : Int → Prop, (∀ x r y, rowOf W x = some r → y ∈ r → Q x → Q y) → ∀ x y, x ∈ keysOf' W → y ∈ keysOf' W → Q x → Q y
/-! ### grown webs -/
theorem rep_no : ∀ {W : WL} {u : Int} {r : List Int}, u ∉ keysOf' W → repRow W u r = W
  | [], _, _, _ => rfl
  | p :: W, u, r, h => by
    have h2 : p.1 ≠ u ∧ u ∉ keysOf' W := by simp only [keysOf', List.map_cons, List.mem_cons, not_or] at h; exact ⟨fun q => h.1 q.symm, h.2⟩
    rw [repRow, if_neg h2.1, rep_no h2.2]
theorem rep_sum : ∀ {W : WL} {u : Int} {r r0 : List Int}, (keysOf' W).Nodup → rowOf W u = some r0 → sumR (repRow W u r) + r0.length = sumR W + r.length
  | [], _, _, _, _, e => by cases e
  | p :: W, u, r, r0, nd, e => by
    have n2 : p.1 ∉ keysOf' W ∧ (keysOf' W).Nodup := List.nodup_cons.mp nd
    rw [rowOf] at e
    rw [repRow]
    by_cases q : p.1 = u
    · rw [if_pos q] at e; cases e
      rw [if_pos q, rep_no (q ▸ n2.1)]
      unfold sumR
      rw [List.map_cons, List.sum_cons, List.map_cons, List.sum_cons]
      dsimp only
      omega
    · rw [if_neg q] at e
      have ih := rep_sum (r := r) n2.2 e
      rw [if_neg q]
      unfold sumR at ih ⊢
      rw [List.map_cons, List.sum_cons, List.map_cons, List.sum_cons]
      omega
theorem put_sum {W : WL} {u : Int} {r r0 : List Int} (nd : (keysOf' W).Nodup) (e : rowOf W u = some r0) : sumR (putRow W u r) + r0.length = sumR W + r.length := by
  unfold putRow
  rw [if_pos (by rw [e]; rfl)]
  exact rep_sum nd e
theorem grw_tri0 {a b c : Int} (h1 : a ≠ b) (h2 : a ≠ c) (h3 : b ≠ c) : Grw (tri0 a b c) := by
  have ra : rowOf (tri0 a b c) a = some [b, c] := by simp [tri0, rowOf]
  have rb : rowOf (tri0 a b c) b = some [c, a] := by simp [tri0, rowOf, h1]
  have rc : rowOf (tri0 a b c) c = some [a, b] := by simp [tri0, rowOf, h2, h3]
  refine ⟨rfl, fun Q hQ x y hx hy q => ?_⟩
  have ab := hQ a _ b ra (by simp)
  have bc := hQ b _ c rb (by simp)
  have ca := hQ c _ a rc (by simp)
  simp only [tri0, keysOf', List.map_cons, List.map_nil, List.mem_cons, List.not_mem_nil, or_false] at hx hy
  have qa : Q a := by
    rcases hx with rfl | rfl | rfl
    · exact q
    · exact ca (bc q)
    · exact ca q
  rcases hy with rfl | rfl | rfl
  · exact qa
  · exact ab qa
  · exact bc (ab qa)
theorem grw_stand {W : WL} (T : Tri W) (g : Grw W) {p x y : Int} {rx ry rz : List Int} (ex : rowOf W x = some rx) (hy : y ∈ rx) (ey : rowOf W y = some ry) (ez : rowOf W (nxt ry x) = some rz) (hp : p ∉ keysOf' W) : Grw (standIn W p x y (nxt ry x) rx ry rz) := by
  obtain ⟨hx, rz', ez', hz, hyz, hzx, hxz, d1, d2, d3, f1, f2⟩ := T.corners ex hy ey
  rw [ez] at ez'; cases ez'
  obtain ⟨T', RO, KO⟩ := T.stand ex hy ey ez hp
  generalize hze : nxt ry x = z at *
  have np : ∀ u r, rowOf W u = some r → p ∉ r := fun u r e q => by
    obtain ⟨r', e', _⟩ := T.sym u p r e q
    exact hp (rowOf_mem e')
  have xp : x ≠ p := fun q => hp (q ▸ rowOf_mem ex)
  refine ⟨?_, fun Q hQ a b ha hb q => ?_⟩
  · have k1 : keysOf' (putRow W y (ins ry x p)) = keysOf' W := by rw [keys_put, if_pos (rowOf_mem ey)]
    have k2 : keysOf' (putRow (putRow W y (ins ry x p)) z (ins rz y p)) = keysOf' W := by rw [keys_put, k1, if_pos (rowOf_mem ez)]
    have k3 : keysOf' (putRow (putRow (putRow W y (ins ry x p)) z (ins rz y p)) x (ins rx z p)) = keysOf' W := by rw [keys_put, k2, if_pos (rowOf_mem ex)]
    have e1 : rowOf (putRow W y (ins ry x p)) z = some rz := by rw [rowOf_put, if_neg fun q => d2 q.symm]; exact ez
    have e2 : rowOf (putRow (putRow W y (ins ry x p)) z (ins rz y p)) x = some rx := by rw [rowOf_put, if_neg d3, rowOf_put, if_neg fun q => d1 q.symm]; exact ex
    have s1 := put_sum (r := ins ry x p) T.nd ey
    have s2 := put_sum (r := ins rz y p) (by rw [k1]; exact T.nd) e1
    have s3 := put_sum (r := ins rx z p) (by rw [k2]; exact T.nd) e2
    rw [len_ins hx (np y ry ey)] at s1
    rw [len_ins hyz (np z rz ez)] at s2
    rw [len_ins hzx (np x rx ex)] at s3
    have ll : (standIn W p x y z rx ry rz).length = W.length + 1 := by rw [← keys_len, KO, List.length_append, keys_len]; rfl
    have s4 : sumR (standIn W p x y z rx ry rz) = sumR (putRow (putRow (putRow W y (ins ry x p)) z (ins rz y p)) x (ins rx z p)) + 3 := by
      unfold standIn
      rw [put_app (by rw [k3]; exact hp)]
      unfold sumR
      rw [List.map_append, List.sum_append]
      rfl
    have gs := g.sum
    rw [ll, s4]
    omega
  · have cl : ∀ a r b, rowOf W a = some r → b ∈ r → Q a → Q b := fun a r b e hb qa => by
      have ap : a ≠ p := fun q => hp (q ▸ rowOf_mem e)
      have ro := RO a
      rw [if_neg ap] at ro
      split at ro
      · rename_i q; subst q; rw [ex] at e; cases e
        exact hQ a _ b ro ((mem_ins hzx (np a _ ex)).mpr (.inl hb)) qa
      · split at ro
        · rename_i q; subst q; rw [ez] at e; cases e
          exact hQ a _ b ro ((mem_ins hyz (np a _ ez)).mpr (.inl hb)) qa
        · split at ro
          · rename_i q; subst q; rw [ey] at e; cases e
            exact hQ a _ b ro ((mem_ins hx (np a _ ey)).mpr (.inl hb)) qa
          · exact hQ a r b (ro.trans e) hb qa
    have rp : rowOf (standIn W p x y z rx ry rz) p = some [y, x, z] := by rw [RO, if_pos rfl]
    have rx' : rowOf (standIn W p x y z rx ry rz) x = some (ins rx z p) := by rw [RO, if_neg xp, if_pos rfl]
    have px : Q p → Q x := hQ p _ x rp (by simp)
    have xp' : Q x → Q p := hQ x _ p rx' ((mem_ins hzx (np x rx ex)).mpr (.inr rfl))
    rw [KO, List.mem_append, List.mem_singleton] at ha hb
    have qx : Q x := by
      rcases ha with ha | rfl
      · exact g.con Q cl a x ha (rowOf_mem ex) q
      · exact px q
    rcases hb with hb | rfl
    · exact g.con Q cl x b (rowOf_mem ex) hb qx
    · exact xp' qx
/-! ### how the law's flat webs come about -/
inductive Made : WL → Prop
  | bare (os : List Int) : os.Nodup → Made (os.map fun p => (p, []))
  | thin (W : WL) (P : Int → Int → Bool) : Tri W → Grw W → W ≠ [] → (∀ u v, P u v = P v u) → Made (mapRows (fun u r => r.filter (P u)) W)
  | join (W V : WL) : Web W → Web V → (∀ u, u ∈ keysOf' W → u ∉ keysOf' V) → Made W → Made V → Made (W ++ V)
  | turn (W V : WL) : Web W → (keysOf' V).Perm (keysOf' W) → (∀ u r, rowOf W u = some r → ∃ k, rowOf V u = some (r.drop k ++ r.take k)) → Made W → Made V

def b__law_names : XS := (sSeq (sAsg (xCall g__law_next (xCons (xVar 0) xNil)) (gNm 2))
    (sSeq (sAsg (xOp opIx (xLst (xCons (xC (.int 1)) (xCons (xC (.int 3)) (xCons (xC (.int 7)) (xCons (xC (.int 9)) (xCons (xC (.int 11)) (xCons (xC (.int 13)) (xCons (xC (.int 271)) (xCons (xC (.int 389)) (xCons (xC (.int 613)) (xCons (xC (.int 997)) xNil))))))))))) (xOp opMod (xOp opDiv (xVar 2) (xC (.int 1000))) (xC (.int 10)))) (gNm 3))
    (sRet (xLc (iRange1 (xVar 1)) (gNm 4) cYes (xOp opMod (xOp opAdd (xOp opMod (xVar 2) (xC (.int 1000))) (xOp opMul (xVar 4) (xVar 3))) (xC (.int 1000))) [4]))))
def g__law_names : Fn := runDef 5 b__law_names
theorem d__law_names {x0 x1 : MV} {h : MH} {R : MV → MH → Prop} (w : Wp (b__law_names [some x0, some x1, none, none, none] h) fun f _ h1 => kR f fun v => R v h1) : We (g__law_names [x0, x1] h) R := we_def w

/-- unlike names -/
def Names (ns : List Int) : Prop := ns.Nodup ∧ ∀ u ∈ ns, 0 ≤ u ∧ u < 1000
theorem names_at (ds : List Int) (d : Nat) (h : MH) (e : h[d]? = some (.lst (ds.map .int))) (hd : Drawn ds) (many : Nat) (hm : many ≤ 200) : ∃ ns : List Int, Names ns ∧ ns.length = many ∧ g__law_names [.ref d, .int (many : Nat)] h = some (.lst (ns.map .int), h.set d (.lst (ds.tail.map .int))) := by
  obtain ⟨n0, n1⟩ := hd.head
  have en := next_at ds d h e
  generalize ds.headD 0 = n at n0 n1 en
  generalize h.set d (.lst (ds.tail.map .int)) = h1 at en ⊢
  have c2 : ∃ y : Int, (y = 1 ∨ y = 3 ∨ y = 7 ∨ y = 9 ∨ y = 11 ∨ y = 13 ∨ y = 271 ∨ y = 389 ∨ y = 613 ∨ y = 997) ∧ atM [.int 1, .int 3, .int 7, .int 9, .int 11, .int 13, .int 271, .int 389, .int 613, .int 997] (n / 1000 % 10) = some (.int y) := by
    have h4 : n / 1000 % 10 = 0 ∨ n / 1000 % 10 = 1 ∨ n / 1000 % 10 = 2 ∨ n / 1000 % 10 = 3 ∨ n / 1000 % 10 = 4 ∨ n / 1000 % 10 = 5 ∨ n / 1000 % 10 = 6 ∨ n / 1000 % 10 = 7 ∨ n / 1000 % 10 = 8 ∨ n / 1000 % 10 = 9 := by omega
    rcases h4 with q | q | q | q | q | q | q | q | q | q <;> rw [q]
    · exact ⟨1, by omega, rfl⟩
    · exact ⟨3, by omega, rfl⟩
    · exact ⟨7, by omega, rfl⟩
    · exact ⟨9, by omega, rfl⟩
    · exact ⟨11, by omega, rfl⟩
    · exact ⟨13, by omega, rfl⟩
    · exact ⟨271, by omega, rfl⟩
    · exact ⟨389, by omega, rfl⟩
    · exact ⟨613, by omega, rfl⟩
    · exact ⟨997, by omega, rfl⟩
  obtain ⟨y, hy, ey⟩ := c2
  have yb : 0 < y ∧ y < 1000 := by omega
  refine ⟨(List.range many).map fun k : Nat => (n % 1000 + (k : Int) * y) % 1000, ⟨?_, ?_⟩, by simp, ?_⟩
  · show List.Pairwise (· ≠ ·) _
    rw [List.pairwise_map]
    refine List.Pairwise.imp_of_mem ?_ (List.nodup_range (n := many))
    intro i j hi hj hne eq
    rw [List.mem_range] at hi hj
    exact hne (by have := step_inj hy (show 0 ≤ (i : Int) ∧ (i : Int) < 1000 by omega) (show 0 ≤ (j : Int) ∧ (j : Int) < 1000 by omega) eq; omega)
  · intro u hu
    obtain ⟨k, _, rfl⟩ := List.mem_map.mp hu
    exact ⟨Int.emod_nonneg _ (by decide), Int.emod_lt_of_pos _ (by decide)⟩
  · have lc : lcGo (gNm 4) cYes (xOp opMod (xOp opAdd (xOp opMod (xVar 2) (xC (.int 1000))) (xOp opMul (xVar 4) (xVar 3))) (xC (.int 1000))) [] (rngM 0 many) [some (.ref d), some (.int (many : Nat)), some (.int n), some (.int y), none] h1 = some ((List.range many).map fun k : Nat => MV.int ((n % 1000 + (k : Int) * y) % 1000), h1) := by
      have := lcGo_all (g := gNm 4) (c := cYes) (e := xOp opMod (xOp opAdd (xOp opMod (xVar 2) (xC (.int 1000))) (xOp opMul (xVar 4) (xVar 3))) (xC (.int 1000))) (s := [some (.ref d), some (.int (many : Nat)), some (.int n), some (.int y), none]) (h := h1) (fun k : Nat => MV.int (0 + (k : Int))) (fun k : Nat => MV.int ((n % 1000 + (k : Int) * y) % 1000)) (List.range many) [] (by rw [List.length_range, List.length_nil]; unfold szLine; omega) (fun k hk => by
        rw [List.mem_range] at hk
        refine ⟨[some (.ref d), some (.int (many : Nat)), some (.int n), some (.int y), some (.int (0 + (k : Int)))], rfl, rfl, ?_⟩
        rw [Int.zero_add]
        simp (discharger := omega) only [sSeq, sAsg, sIf, sRet, sRetN, sExpr, sNext, sPar, sPar3, sBk, sCt, sFor, sPut, gNm, gTp, gsCons, gsNil, xVar, xC, xOp, xUn, xCons, xNil, xArgs, xCall, xTup, xLst, xBox, boxM, xIf, xAnd, xOr, xNot, xB, xAndT, xOrT, xNotT, xAppend, xPop, xPopAt, xExtend, xExtendT, xSlL, xPart, xNoPart, iSeq, iRange1, iRange2, cYes, seqOf, listOf, isLstC, runDef, sBegin, List.map_cons, List.map_nil, List.length_cons, List.length_nil, List.getElem?_cons_zero, List.getElem?_cons_succ, List.getElem?_nil, List.set_cons_zero, List.set_cons_succ, List.cons_append, List.nil_append, List.append_nil, Nat.sub_self, Nat.zero_add, Nat.reduceAdd, Nat.reduceSub, Nat.add_one_sub_one, List.replicate_zero, List.replicate_succ, Option.map_some, if_true, if_false, decide_true, decide_false, Bool.not_true, Bool.not_false, Bool.true_or, Bool.false_or, Bool.or_true, Bool.or_false, Bool.true_and, Bool.false_and, Bool.and_true, Bool.and_false, beq_self_eq_true, opAdd, opSub, opNeg, opLt, opLe, opGt, opGe, opIx, fLen, fAbs, fMax2, fMin2, fIsi, tyN, fList, fTuple, fDictP, opCat, opCatT, lstC, fKeys, fKeysS, fSorted, xPairs, xDisp, xUpdate, sForK, gLp, fKeysT, opRevT, iEnumT, keyOf, keyV, opIsBl, opNotBl, dictK, st_NoneType_bool, st_NoneType_int, st_NoneType_str, st_NoneType_tuple, st_NoneType_list, st_NoneType_dict, st_bool_bool, st_bool_int, st_bool_str, st_bool_tuple, st_bool_list, st_bool_dict, st_int_bool, st_int_int, st_int_str, st_int_tuple, st_int_list, st_int_dict, st_str_bool, st_str_int, st_str_str, st_str_tuple, st_str_list, st_str_dict, st_tuple_bool, st_tuple_int, st_tuple_str, st_tuple_tuple, st_tuple_list, st_tuple_dict, st_list_bool, st_list_int, st_list_str, st_list_tuple, st_list_list, st_list_dict, st_dict_bool, st_dict_int, st_dict_str, st_dict_tuple, st_dict_list, st_dict_dict, mod_ok, mul_ok])
      exact this
    have tn : (((many : Nat) : Int)).toNat = many := by omega
    have rg := rng1_at (e := xVar 1) (s := [some (.ref d), some (.int (many : Nat)), some (.int n), some (.int y), none]) (h := h1) (h1 := h1) (j := (many : Nat)) rfl (by omega)
    rw [tn] at rg
    refine run_rt (b := b__law_names) (s := [some (.ref d), some (.int (many : Nat)), some (.int n), some (.int y), none]) ((seq_nx (s1 := [some (.ref d), some (.int (many : Nat)), some (.int n), none, none]) (h1 := h1) ?_).trans ((seq_nx (s1 := [some (.ref d), some (.int (many : Nat)), some (.int n), some (.int y), none]) (h1 := h1) ?_).trans ?_))
    · simp only [ews, en]
    · simp (discharger := omega) only [sSeq, sAsg, sIf, sRet, sRetN, sExpr, sNext, sPar, sPar3, sBk, sCt, sFor, sPut, gNm, gTp, gsCons, gsNil, xVar, xC, xOp, xUn, xCons, xNil, xArgs, xCall, xTup, xLst, xBox, boxM, xIf, xAnd, xOr, xNot, xB, xAndT, xOrT, xNotT, xAppend, xPop, xPopAt, xExtend, xExtendT, xSlL, xPart, xNoPart, iSeq, iRange1, iRange2, cYes, seqOf, listOf, isLstC, runDef, sBegin, List.map_cons, List.map_nil, List.length_cons, List.length_nil, List.getElem?_cons_zero, List.getElem?_cons_succ, List.getElem?_nil, List.set_cons_zero, List.set_cons_succ, List.cons_append, List.nil_append, List.append_nil, Nat.sub_self, Nat.zero_add, Nat.reduceAdd, Nat.reduceSub, Nat.add_one_sub_one, List.replicate_zero, List.replicate_succ, Option.map_some, if_true, if_false, decide_true, decide_false, Bool.not_true, Bool.not_false, Bool.true_or, Bool.false_or, Bool.or_true, Bool.or_false, Bool.true_and, Bool.false_and, Bool.and_true, Bool.and_false, beq_self_eq_true, opAdd, opSub, opNeg, opLt, opLe, opGt, opGe, opIx, fLen, fAbs, fMax2, fMin2, fIsi, tyN, fList, fTuple, fDictP, opCat, opCatT, lstC, fKeys, fKeysS, fSorted, xPairs, xDisp, xUpdate, sForK, gLp, fKeysT, opRevT, iEnumT, keyOf, keyV, opIsBl, opNotBl, dictK, st_NoneType_bool, st_NoneType_int, st_NoneType_str, st_NoneType_tuple, st_NoneType_list, st_NoneType_dict, st_bool_bool, st_bool_int, st_bool_str, st_bool_tuple, st_bool_list, st_bool_dict, st_int_bool, st_int_int, st_int_str, st_int_tuple, st_int_list, st_int_dict, st_str_bool, st_str_int, st_str_str, st_str_tuple, st_str_list, st_str_dict, st_tuple_bool, st_tuple_int, st_tuple_str, st_tuple_tuple, st_tuple_list, st_tuple_dict, st_list_bool, st_list_int, st_list_str, st_list_tuple, st_list_list, st_list_dict, st_dict_bool, st_dict_int, st_dict_str, st_dict_tuple, st_dict_list, st_dict_dict, div_ok, mod_ok, ey]
    · rw [List.map_map]
      exact ret_at (lc_at rg lc)

def b__law_behind : XS := (sSeq (sAsg (xOp opIx (xVar 0) (xVar 2)) (gNm 3))
    (sRet (xTup (xCons (xVar 2) (xCons (xOp opIx (xVar 3) (xOp opMod (xOp opAdd (xOp opIndexL (xVar 3) (xVar 1)) (xC (.int 1))) (xArgs fLen (xCons (xVar 3) xNil)))) xNil)))))
def g__law_behind : Fn := runDef 4 b__law_behind
theorem d__law_behind {x0 x1 x2 : MV} {h : MH} {R : MV → MH → Prop} (w : Wp (b__law_behind [some x0, some x1, some x2, none] h) fun f _ h1 => kR f fun v => R v h1) : We (g__law_behind [x0, x1, x2] h) R := we_def w

theorem behind_at (h : MH) (rows : MV) (u v : Int) (r : List Int) (e : opIx h rows (.int v) = some (.lst (r.map .int))) (hu : u ∈ r) : g__law_behind [rows, .int u, .int v] h = some (.tup [.int v, .int (nxt r u)], h) := by
  have hl : 0 < r.length := List.length_pos_of_mem hu
  have hi : r.idxOf u < r.length := List.idxOf_lt_length_iff.mpr hu
  have em : (((r.idxOf u : Nat) : Int) + 1) % ((r.length : Nat) : Int) = (((r.idxOf u + 1) % r.length : Nat) : Int) := by rw [Int.natCast_emod]; rfl
  have el : (r.idxOf u + 1) % r.length < r.length := Nat.mod_lt _ hl
  have ea : atM (r.map MV.int) (((r.idxOf u + 1) % r.length : Nat) : Int) = some (.int (nxt r u)) := at_nat (by
    rw [List.getElem?_map, nxt, List.getElem?_eq_getElem el]; rfl)
  refine run_rt (b := b__law_behind) (s := [some rows, some (.int u), some (.int v), some (.lst (r.map .int))]) ((seq_nx (s1 := [some rows, some (.int u), some (.int v), some (.lst (r.map .int))]) (h1 := h) ?_).trans ?_)
  · simp only [ewd, e]
  · simp (discharger := omega) only [sSeq, sAsg, sIf, sRet, sRetN, sExpr, sNext, sPar, sPar3, sBk, sCt, sFor, sPut, gNm, gTp, gsCons, gsNil, xVar, xC, xOp, xUn, xCons, xNil, xArgs, xCall, xTup, xLst, xBox, boxM, xIf, xAnd, xOr, xNot, xB, xAndT, xOrT, xNotT, xAppend, xPop, xPopAt, xExtend, xExtendT, xSlL, xPart, xNoPart, iSeq, iRange1, iRange2, cYes, seqOf, listOf, isLstC, runDef, sBegin, List.map_cons, List.map_nil, List.length_cons, List.length_nil, List.getElem?_cons_zero, List.getElem?_cons_succ, List.getElem?_nil, List.set_cons_zero, List.set_cons_succ, List.cons_append, List.nil_append, List.append_nil, Nat.sub_self, Nat.zero_add, Nat.reduceAdd, Nat.reduceSub, Nat.add_one_sub_one, List.replicate_zero, List.replicate_succ, Option.map_some, if_true, if_false, decide_true, decide_false, Bool.not_true, Bool.not_false, Bool.true_or, Bool.false_or, Bool.or_true, Bool.or_false, Bool.true_and, Bool.false_and, Bool.and_true, Bool.and_false, beq_self_eq_true, opAdd, opSub, opNeg, opLt, opLe, opGt, opGe, fLen, fAbs, fMax2, fMin2, fIsi, tyN, fList, fTuple, fDictP, opCat, opCatT, lstC, fKeys, fKeysS, fSorted, xPairs, xDisp, xUpdate, sForK, gLp, fKeysT, opRevT, iEnumT, keyOf, keyV, opIsBl, opNotBl, dictK, st_NoneType_bool, st_NoneType_int, st_NoneType_str, st_NoneType_tuple, st_NoneType_list, st_NoneType_dict, st_bool_bool, st_bool_int, st_bool_str, st_bool_tuple, st_bool_list, st_bool_dict, st_int_bool, st_int_int, st_int_str, st_int_tuple, st_int_list, st_int_dict, st_str_bool, st_str_int, st_str_str, st_str_tuple, st_str_list, st_str_dict, st_tuple_bool, st_tuple_int, st_tuple_str, st_tuple_tuple, st_tuple_list, st_tuple_dict, st_list_bool, st_list_int, st_list_str, st_list_tuple, st_list_list, st_list_dict, st_dict_bool, st_dict_int, st_dict_str, st_dict_tuple, st_dict_list, st_dict_dict, index_at hu, ix_l, List.length_map, mod_ok, em, ea]

def b__law_put_behind : XS := (sSeq (sAsg (xOp opAdd (xOp opIndexL (xVar 0) (xVar 1)) (xC (.int 1))) (gNm 3))
    (sRet (xCat (xCat (xSlL (xVar 0) xNoPart (xPart (xVar 3))) (xLst (xCons (xVar 2) xNil))) (xSlL (xVar 0) (xPart (xVar 3)) xNoPart))))
def g__law_put_behind : Fn := runDef 4 b__law_put_behind
theorem d__law_put_behind {x0 x1 x2 : MV} {h : MH} {R : MV → MH → Prop} (w : Wp (b__law_put_behind [some x0, some x1, some x2, none] h) fun f _ h1 => kR f fun v => R v h1) : We (g__law_put_behind [x0, x1, x2] h) R := we_def w

theorem put_behind_at (h : MH) (r : List Int) (a p : Int) (ha : a ∈ r) (hz : r.length < 1000) : g__law_put_behind [.lst (r.map .int), .int a, .int p] h = some (.lst ((ins r a p).map .int), h) := by
  have hi : r.idxOf a < r.length := List.idxOf_lt_length_iff.mpr ha
  have e1 : cutM (r.map MV.int) none (some (((r.idxOf a : Nat) : Int) + 1)) = (r.map MV.int).take (r.idxOf a + 1) := by
    rw [cut_to (by omega)]
    have : (((r.idxOf a : Nat) : Int) + 1).toNat = r.idxOf a + 1 := by omega
    rw [this]
  have e2 : cutM (r.map MV.int) (some (((r.idxOf a : Nat) : Int) + 1)) none = (r.map MV.int).drop (r.idxOf a + 1) := by
    rw [cut_from (by omega)]
    have : (((r.idxOf a : Nat) : Int) + 1).toNat = r.idxOf a + 1 := by omega
    rw [this]
  have z1 : ((r.map MV.int).take (r.idxOf a + 1)).length + 1 ≤ szLine := by rw [List.length_take, List.length_map]; unfold szLine; omega
  have z2 : ((r.map MV.int).take (r.idxOf a + 1) ++ [MV.int p]).length + ((r.map MV.int).drop (r.idxOf a + 1)).length ≤ szLine := by rw [List.length_append, List.length_take, List.length_drop, List.length_map]; simp only [List.length_singleton]; unfold szLine; omega
  have e3 : (ins r a p).map MV.int = (r.map MV.int).take (r.idxOf a + 1) ++ [.int p] ++ (r.map MV.int).drop (r.idxOf a + 1) := by
    unfold ins
    rw [List.map_append, List.map_append, List.map_take, List.map_drop]
    rfl
  rw [e3]
  refine run_rt (b := b__law_put_behind) (s := [some (.lst (r.map .int)), some (.int a), some (.int p), some (.int (((r.idxOf a : Nat) : Int) + 1))]) ((seq_nx (s1 := [some (.lst (r.map .int)), some (.int a), some (.int p), some (.int (((r.idxOf a : Nat) : Int) + 1))]) (h1 := h) ?_).trans ?_)
  · simp only [ewd, index_at ha]
  · simp only [ewd, e1, e2, z1, z2, if_true]

def b__law_stand_in : XS := (sSeq (sPut (xVar 0) (xVar 3) (xCall g__law_put_behind (xCons (xOp opIx (xVar 0) (xVar 3)) (xCons (xVar 2) (xCons (xVar 1) xNil)))))
    (sSeq (sPut (xVar 0) (xVar 4) (xCall g__law_put_behind (xCons (xOp opIx (xVar 0) (xVar 4)) (xCons (xVar 3) (xCons (xVar 1) xNil)))))
    (sSeq (sPut (xVar 0) (xVar 2) (xCall g__law_put_behind (xCons (xOp opIx (xVar 0) (xVar 2)) (xCons (xVar 4) (xCons (xVar 1) xNil)))))
    (sPut (xVar 0) (xVar 1) (xLst (xCons (xVar 3) (xCons (xVar 2) (xCons (xVar 4) xNil))))))))
def g__law_stand_in : Fn := runDef 5 b__law_stand_in
theorem d__law_stand_in {x0 x1 x2 x3 x4 : MV} {h : MH} {R : MV → MH → Prop} (w : Wp (b__law_stand_in [some x0, some x1, some x2, some x3, some x4] h) fun f _ h1 => kR f fun v => R v h1) : We (g__law_stand_in [x0, x1, x2, x3, x4] h) R := we_def w

theorem stand_at (h : MH) (m : Nat) (W : WL) (p x y z : Int) (rx ry rz : List Int) (e : h[m]? = some (.dK (rowsV W))) (ex : rowOf W x = some rx) (ey : rowOf W y = some ry) (ez : rowOf W z = some rz) (hx : x ∈ ry) (hy : y ∈ rz) (hz : z ∈ rx)
    (d1 : y ≠ x) (d2 : y ≠ z) (d3 : x ≠ z) (hW : W.length < 900) (lx : rx.length < 1000) (ly : ry.length < 1000) (lz : rz.length < 1000) : g__law_stand_in [.ref m, .int p, .int x, .int y, .int z] h = some (.non, h.set m (.dK (rowsV (standIn W p x y z rx ry rz)))) := by
  have hm : m < h.length := (List.getElem?_eq_some_iff.mp e).1
  have lp : ∀ (V : WL) (u : Int) (r : List Int), (putRow V u r).length ≤ V.length + 1 := fun V u r => by
    rw [← keys_len, ← keys_len, keys_put]; split
    · omega
    · rw [List.length_append]; simp
  have l1 := lp W y (ins ry x p)
  have l2 := lp (putRow W y (ins ry x p)) z (ins rz y p)
  have l3 := lp (putRow (putRow W y (ins ry x p)) z (ins rz y p)) x (ins rx z p)
  have g1 : ∀ V : WL, (h.set m (.dK (rowsV V)))[m]? = some (.dK (rowsV V)) := fun V => List.getElem?_set_self hm
  have s1 : ∀ (V U : WL), (h.set m (.dK (rowsV V))).set m (.dK (rowsV U)) = h.set m (.dK (rowsV U)) := fun V U => by simp
  have ez2 : rowOf (putRow W y (ins ry x p)) z = some rz := by rw [rowOf_put, if_neg (fun q => d2 q.symm)]; exact ez
  have ex2 : rowOf (putRow (putRow W y (ins ry x p)) z (ins rz y p)) x = some rx := by rw [rowOf_put, if_neg d3, rowOf_put, if_neg (fun q => d1 q.symm)]; exact ex
  have st1 : sPut (xVar 0) (xVar 3) (xCall g__law_put_behind (xCons (xOp opIx (xVar 0) (xVar 3)) (xCons (xVar 2) (xCons (xVar 1) xNil)))) [some (.ref m), some (.int p), some (.int x), some (.int y), some (.int z)] h = some (.nx, [some (.ref m), some (.int p), some (.int x), some (.int y), some (.int z)], h.set m (.dK (rowsV (putRow W y (ins ry x p))))) := by
    simp only [ewd, ix_rows e ey, put_behind_at h ry x p hx ly, put_rows e (show W.length < szLine by unfold szLine; omega)]
  have st2 : sPut (xVar 0) (xVar 4) (xCall g__law_put_behind (xCons (xOp opIx (xVar 0) (xVar 4)) (xCons (xVar 3) (xCons (xVar 1) xNil)))) [some (.ref m), some (.int p), some (.int x), some (.int y), some (.int z)] (h.set m (.dK (rowsV (putRow W y (ins ry x p))))) = some (.nx, [some (.ref m), some (.int p), some (.int x), some (.int y), some (.int z)], h.set m (.dK (rowsV (putRow (putRow W y (ins ry x p)) z (ins rz y p))))) := by
    simp only [ewd, ix_rows (g1 _) ez2, put_behind_at _ rz y p hy lz, put_rows (g1 _) (show (putRow W y (ins ry x p)).length < szLine by unfold szLine; omega), s1]
  have st3 : sPut (xVar 0) (xVar 2) (xCall g__law_put_behind (xCons (xOp opIx (xVar 0) (xVar 2)) (xCons (xVar 4) (xCons (xVar 1) xNil)))) [some (.ref m), some (.int p), some (.int x), some (.int y), some (.int z)] (h.set m (.dK (rowsV (putRow (putRow W y (ins ry x p)) z (ins rz y p))))) = some (.nx, [some (.ref m), some (.int p), some (.int x), some (.int y), some (.int z)], h.set m (.dK (rowsV (putRow (putRow (putRow W y (ins ry x p)) z (ins rz y p)) x (ins rx z p))))) := by
    simp only [ewd, ix_rows (g1 _) ex2, put_behind_at _ rx z p hz lx, put_rows (g1 _) (show (putRow (putRow W y (ins ry x p)) z (ins rz y p)).length < szLine by unfold szLine; omega), s1]
  have pr := put_rows (u := p) (r := [y, x, z]) (g1 (putRow (putRow (putRow W y (ins ry x p)) z (ins rz y p)) x (ins rx z p))) (show (putRow (putRow (putRow W y (ins ry x p)) z (ins rz y p)) x (ins rx z p)).length < szLine by unfold szLine; omega)
  rw [s1] at pr
  simp only [List.map_cons, List.map_nil] at pr
  refine run_nx (b := b__law_stand_in) (s := [some (.ref m), some (.int p), some (.int x), some (.int y), some (.int z)]) ((seq_nx st1).trans ((seq_nx st2).trans ((seq_nx st3).trans ?_)))
  simp only [ewd, pr]
  rfl
def B1__law_full : XS := (sSeq (sAsg (xOp opIx (xVar 6) (xOp opMod (xCall g__law_next (xCons (xVar 0) xNil)) (xArgs fLen (xCons (xVar 6) xNil)))) (gTp 2 (gsCons (gNm 8) (gsCons (gNm 9) gsNil))))
    (sSeq (sAsg (xOp opIx (xCall g__law_behind (xCons (xVar 5) (xCons (xVar 8) (xCons (xVar 9) xNil)))) (xC (.int 1))) (gNm 10))
    (sSeq (sExpr (xCall g__law_stand_in (xCons (xVar 5) (xCons (xVar 7) (xCons (xVar 8) (xCons (xVar 9) (xCons (xVar 10) xNil)))))))
    (sAsg (xCat (xVar 6) (xLst (xCons (xTup (xCons (xVar 8) (xCons (xVar 7) xNil))) (xCons (xTup (xCons (xVar 9) (xCons (xVar 7) xNil))) (xCons (xTup (xCons (xVar 10) (xCons (xVar 7) xNil))) (xCons (xTup (xCons (xVar 8) (xCons (xVar 9) xNil))) xNil)))))) (gNm 6)))))
def b__law_full : XS := (sSeq (sAsg (xSlL (xVar 1) xNoPart (xPart (xC (.int 3)))) (gLp 3 (gsCons (gNm 2) (gsCons (gNm 3) (gsCons (gNm 4) gsNil)))))
    (sSeq (sAsg (xBox (xDisp (((xVar 2), (xLst (xCons (xVar 3) (xCons (xVar 4) xNil)))) :: (((xVar 3), (xLst (xCons (xVar 4) (xCons (xVar 2) xNil)))) :: (((xVar 4), (xLst (xCons (xVar 2) (xCons (xVar 3) xNil)))) :: []))))) (gNm 5))
    (sSeq (sAsg (xLst (xCons (xTup (xCons (xVar 2) (xCons (xVar 3) xNil))) (xCons (xTup (xCons (xVar 3) (xCons (xVar 2) xNil))) xNil))) (gNm 6))
    (sSeq (sFor (iSeq (xSlL (xVar 1) (xPart (xC (.int 3))) xNoPart)) (gNm 7) B1__law_full)
    (sRet (xVar 5))))))
def g__law_full : Fn := runDef 11 b__law_full
theorem d__law_full {x0 x1 : MV} {h : MH} {R : MV → MH → Prop} (w : Wp (b__law_full [some x0, some x1, none, none, none, none, none, none, none, none, none] h) fun f _ h1 => kR f fun v => R v h1) : We (g__law_full [x0, x1] h) R := we_def w

def stepsV (S : List (Int × Int)) : List MV := S.map fun p => .tup [.int p.1, .int p.2]
theorem tri_merge {a b c : Int} (h1 : a ≠ b) (h2 : a ≠ c) (h3 : b ≠ c) : mergeM [] [(.inl a, .lst [.int b, .int c]), (.inl b, .lst [.int c, .int a]), (.inl c, .lst [.int a, .int b])] = rowsV (tri0 a b c) := by
  have e : mergeM [] [(.inl a, .lst [.int b, .int c]), (.inl b, .lst [.int c, .int a]), (.inl c, .lst [.int a, .int b])] = putM (putM (putM (rowsV []) (.inl a) (.lst ([b, c].map .int))) (.inl b) (.lst ([c, a].map .int))) (.inl c) (.lst ([a, b].map .int)) := rfl
  rw [e, putM_rows, putM_rows, putM_rows]
  simp [putRow, rowOf, tri0, h1, h2, h3]
theorem full_step (h : MH) (d : Nat) (hd : d < h.length) (ds : List Int) (hD : Drawn ds) (W : WL) (T : Tri W) (S : List (Int × Int)) (hS : S ≠ []) (hl : S.length < 10000) (hs : ∀ q ∈ S, ∃ rx, rowOf W q.1 = some rx ∧ q.2 ∈ rx) (k : Nat) (hk : k < 800) (hr : ∀ u r, rowOf W u = some r → r.length ≤ k) (hW : W.length < 900) (p : Int) (hp : p ∉ keysOf' W) (o1 o2 o3 o4 o8 o9 o10 : Option MV) :
    ∃ W' S' o8' o9' o10', B1__law_full [some (.ref d), o1, o2, o3, o4, some (.ref h.length), some (.lst (stepsV S)), some (.int p), o8, o9, o10] ((h.set d (.lst (ds.map .int))) ++ [.dK (rowsV W)])
      = some (.nx, [some (.ref d), o1, o2, o3, o4, some (.ref h.length), some (.lst (stepsV S')), some (.int p), o8', o9', o10'], (h.set d (.lst (ds.tail.map .int))) ++ [.dK (rowsV W')]) ∧
      Tri W' ∧ keysOf' W' = keysOf' W ++ [p] ∧ S' ≠ [] ∧ S'.length = S.length + 4 ∧ (∀ q ∈ S', ∃ rx, rowOf W' q.1 = some rx ∧ q.2 ∈ rx) ∧ (∀ u r, rowOf W' u = some r → r.length ≤ k + 3) ∧ (Grw W → Grw W') := by
  obtain ⟨n0, n1⟩ := hD.head
  have hd' : d < (h.set d (.lst (ds.map .int))).length := by simpa using hd
  have en := next_at ds d ((h.set d (.lst (ds.map .int))) ++ [.dK (rowsV W)]) (get_app (get_set hd))
  rw [set_app hd] at en
  generalize ds.headD 0 = n at n0 n1 en
  obtain ⟨⟨x, y⟩, hq, ep⟩ := pick (f := fun q : Int × Int => MV.tup [.int q.1, .int q.2]) n0 hS
  obtain ⟨rx, ex, hy⟩ := hs _ hq
  simp only at ex hy ep
  obtain ⟨ry, ey, _⟩ := T.sym x y rx ex hy
  obtain ⟨hx, rz, ez, hz, hyz, hzx, hxz, d1, d2, d3, f1, f2⟩ := T.corners ex hy ey
  obtain ⟨T', RO, KO⟩ := T.stand ex hy ey ez hp
  generalize hze : nxt ry x = z at *
  have gl : ∀ V : WL, ((h.set d (.lst (ds.tail.map .int))) ++ [.dK (rowsV V)])[h.length]? = some (.dK (rowsV V)) := fun V => get_end (by simp)
  have be := behind_at ((h.set d (.lst (ds.tail.map .int))) ++ [.dK (rowsV W)]) (.ref h.length) x y ry (ix_rows (gl W) ey) hx
  rw [hze] at be
  have l1 := hr x rx ex
  have l2 := hr y ry ey
  have l3 := hr z rz ez
  have sa := stand_at ((h.set d (.lst (ds.tail.map .int))) ++ [.dK (rowsV W)]) h.length W p x y z rx ry rz (gl W) ex ey ez hx hyz hzx d1 d2 d3 hW (by omega) (by omega) (by omega)
  rw [set_end (by simp)] at sa
  have sv : stepsV (S ++ [(x, p), (y, p), (z, p), (x, y)]) = stepsV S ++ [.tup [.int x, .int p], .tup [.int y, .int p], .tup [.int z, .int p], .tup [.int x, .int y]] := by simp [stepsV]
  have sl : (stepsV S).length = S.length := by simp [stepsV]
  have zl : S.length + 4 ≤ szLine := by unfold szLine; omega
  have hSl : 0 < S.length := List.length_pos_iff.mpr hS
  have hpx : x ≠ p := fun e => hp (by rw [← e]; exact rowOf_mem ex)
  have hpy : y ≠ p := fun e => hp (by rw [← e]; exact rowOf_mem ey)
  have hpz : z ≠ p := fun e => hp (by rw [← e]; exact rowOf_mem ez)
  have np : ∀ u r, rowOf W u = some r → p ∉ r := fun u r e q => by
    obtain ⟨r', e', _⟩ := T.sym u p r e q
    exact hp (rowOf_mem e')
  have Rx : rowOf (standIn W p x y z rx ry rz) x = some (ins rx z p) := by rw [RO, if_neg hpx, if_pos rfl]
  have Ry : rowOf (standIn W p x y z rx ry rz) y = some (ins ry x p) := by rw [RO, if_neg hpy, if_neg d1, if_neg d2, if_pos rfl]
  have Rz : rowOf (standIn W p x y z rx ry rz) z = some (ins rz y p) := by rw [RO, if_neg hpz, if_neg (fun e => d3 e.symm), if_pos rfl]
  refine ⟨standIn W p x y z rx ry rz, S ++ [(x, p), (y, p), (z, p), (x, y)], some (.int x), some (.int y), some (.int z), ?_, T', KO, by simp, by simp, ?_, ?_, fun g => by have := grw_stand T g ex hy ey (by rw [hze]; exact ez) hp; rw [hze] at this; exact this⟩
  · have st1 : sAsg (xOp opIx (xVar 6) (xOp opMod (xCall g__law_next (xCons (xVar 0) xNil)) (xArgs fLen (xCons (xVar 6) xNil)))) (gTp 2 (gsCons (gNm 8) (gsCons (gNm 9) gsNil))) [some (.ref d), o1, o2, o3, o4, some (.ref h.length), some (.lst (stepsV S)), some (.int p), o8, o9, o10] ((h.set d (.lst (ds.map .int))) ++ [.dK (rowsV W)]) = some (.nx, [some (.ref d), o1, o2, o3, o4, some (.ref h.length), some (.lst (stepsV S)), some (.int p), some (.int x), some (.int y), o10], (h.set d (.lst (ds.tail.map .int))) ++ [.dK (rowsV W)]) := by
      simp (discharger := omega) only [sSeq, sAsg, sIf, sRet, sRetN, sExpr, sNext, sPar, sPar3, sBk, sCt, sFor, sPut, gNm, gTp, gsCons, gsNil, xVar, xC, xOp, xUn, xCons, xNil, xArgs, xCall, xTup, xLst, xBox, boxM, xIf, xAnd, xOr, xNot, xB, xAndT, xOrT, xNotT, xAppend, xPop, xPopAt, xExtend, xExtendT, xSlL, xPart, xNoPart, iSeq, iRange1, iRange2, cYes, seqOf, listOf, isLstC, runDef, sBegin, List.map_cons, List.map_nil, List.length_cons, List.length_nil, List.getElem?_cons_zero, List.getElem?_cons_succ, List.getElem?_nil, List.set_cons_zero, List.set_cons_succ, List.cons_append, List.nil_append, List.append_nil, Nat.sub_self, Nat.zero_add, Nat.reduceAdd, Nat.reduceSub, Nat.add_one_sub_one, List.replicate_zero, List.replicate_succ, Option.map_some, if_true, if_false, decide_true, decide_false, Bool.not_true, Bool.not_false, Bool.true_or, Bool.false_or, Bool.or_true, Bool.or_false, Bool.true_and, Bool.false_and, Bool.and_true, Bool.and_false, beq_self_eq_true, opAdd, opSub, opNeg, opLt, opLe, opGt, opGe, fLen, fAbs, fMax2, fMin2, fIsi, tyN, fList, fTuple, fDictP, opCat, opCatT, lstC, fKeys, fKeysS, fSorted, xPairs, xDisp, xUpdate, sForK, gLp, fKeysT, opRevT, iEnumT, keyOf, keyV, opIsBl, opNotBl, dictK, st_NoneType_bool, st_NoneType_int, st_NoneType_str, st_NoneType_tuple, st_NoneType_list, st_NoneType_dict, st_bool_bool, st_bool_int, st_bool_str, st_bool_tuple, st_bool_list, st_bool_dict, st_int_bool, st_int_int, st_int_str, st_int_tuple, st_int_list, st_int_dict, st_str_bool, st_str_int, st_str_str, st_str_tuple, st_str_list, st_str_dict, st_tuple_bool, st_tuple_int, st_tuple_str, st_tuple_tuple, st_tuple_list, st_tuple_dict, st_list_bool, st_list_int, st_list_str, st_list_tuple, st_list_list, st_list_dict, st_dict_bool, st_dict_int, st_dict_str, st_dict_tuple, st_dict_list, st_dict_dict, en, sl, mod_ok, ix_l, show stepsV S = S.map (fun q : Int × Int => MV.tup [.int q.1, .int q.2]) from rfl, List.length_map, ep]
    have st2 : sAsg (xOp opIx (xCall g__law_behind (xCons (xVar 5) (xCons (xVar 8) (xCons (xVar 9) xNil)))) (xC (.int 1))) (gNm 10) [some (.ref d), o1, o2, o3, o4, some (.ref h.length), some (.lst (stepsV S)), some (.int p), some (.int x), some (.int y), o10] ((h.set d (.lst (ds.tail.map .int))) ++ [.dK (rowsV W)]) = some (.nx, [some (.ref d), o1, o2, o3, o4, some (.ref h.length), some (.lst (stepsV S)), some (.int p), some (.int x), some (.int y), some (.int z)], (h.set d (.lst (ds.tail.map .int))) ++ [.dK (rowsV W)]) := by
      simp only [ewd, be, ix_t, at_1]
    have st3 : sExpr (xCall g__law_stand_in (xCons (xVar 5) (xCons (xVar 7) (xCons (xVar 8) (xCons (xVar 9) (xCons (xVar 10) xNil)))))) [some (.ref d), o1, o2, o3, o4, some (.ref h.length), some (.lst (stepsV S)), some (.int p), some (.int x), some (.int y), some (.int z)] ((h.set d (.lst (ds.tail.map .int))) ++ [.dK (rowsV W)]) = some (.nx, [some (.ref d), o1, o2, o3, o4, some (.ref h.length), some (.lst (stepsV S)), some (.int p), some (.int x), some (.int y), some (.int z)], (h.set d (.lst (ds.tail.map .int))) ++ [.dK (rowsV (standIn W p x y z rx ry rz))]) := by
      simp only [ewd, sa]
    refine (seq_nx st1).trans ((seq_nx st2).trans ((seq_nx st3).trans ?_))
    simp only [ewd, sv, sl, zl, if_true]
  · intro q hq
    rcases List.mem_append.mp hq with h1 | h1
    · obtain ⟨r, er, hm⟩ := hs q h1
      have qp : q.1 ≠ p := fun e => hp (by rw [← e]; exact rowOf_mem er)
      rw [RO, if_neg qp]
      split
      · rename_i e; rw [e, ex] at er; cases er
        exact ⟨_, rfl, (mem_ins hzx (np x _ ex)).mpr (.inl hm)⟩
      · split
        · rename_i e; rw [e, ez] at er; cases er
          exact ⟨_, rfl, (mem_ins hyz (np z _ ez)).mpr (.inl hm)⟩
        · split
          · rename_i e; rw [e, ey] at er; cases er
            exact ⟨_, rfl, (mem_ins hx (np y _ ey)).mpr (.inl hm)⟩
          · exact ⟨r, er, hm⟩
    · simp only [List.mem_cons, List.not_mem_nil, or_false] at h1
      rcases h1 with rfl | rfl | rfl | rfl
      · exact ⟨_, Rx, (mem_ins hzx (np x rx ex)).mpr (.inr rfl)⟩
      · exact ⟨_, Ry, (mem_ins hx (np y ry ey)).mpr (.inr rfl)⟩
      · exact ⟨_, Rz, (mem_ins hyz (np z rz ez)).mpr (.inr rfl)⟩
      · exact ⟨_, Rx, (mem_ins hzx (np x rx ex)).mpr (.inl hy)⟩
  · intro u r e
    rw [RO] at e
    split at e
    · cases e; simp
    · split at e
      · cases e; rw [len_ins hzx (np x rx ex)]; omega
      · split at e
        · cases e; rw [len_ins hyz (np z rz ez)]; omega
        · split at e
          · cases e; rw [len_ins hx (np y ry ey)]; omega
          · have := hr u r e; omega
theorem full_grw (h : MH) (d : Nat) (ds : List Int) (e : h[d]? = some (.lst (ds.map .int))) (hD : Drawn ds) (ns : List Int) (hn : Names ns) (l3 : 3 ≤ ns.length) (l2 : ns.length ≤ 200) :
    ∃ W ds', Tri W ∧ Grw W ∧ keysOf' W = ns ∧ Drawn ds' ∧ (toldF g__law_full) [.ref d, .lst (ns.map .int)] h = some (.dK (rowsV W), h.set d (.lst (ds'.map .int))) := by
  have hd : d < h.length := (List.getElem?_eq_some_iff.mp e).1
  match ns, hn, l3, l2 with
  | a :: b :: c :: rest, hn, l3, l2 =>
    have nd := hn.1
    simp only [List.nodup_cons, List.mem_cons, not_or] at nd
    obtain ⟨⟨n1, n2, n3⟩, ⟨n4, n5⟩, n6, n7⟩ := nd
    have T0 := tri0_ok n1 n2 n4
    have hset : h = h.set d (.lst (ds.map .int)) := (set_same e).symm
    simp only [List.length_cons] at l2
    obtain ⟨s', h', eg, W, ds', S, o7, o8, o9, o10, rfl, rfl, T, G, K, D', S1, S2, S3, S4⟩ := forGo_run (g := gNm 7) (b := B1__law_full)
      (fun i s h1 => ∃ W ds' S o7 o8 o9 o10, s = [some (.ref d), some (.lst ((a :: b :: c :: rest).map .int)), some (.int a), some (.int b), some (.int c), some (.ref h.length), some (.lst (stepsV S)), o7, o8, o9, o10] ∧ h1 = (h.set d (.lst (ds'.map .int))) ++ [.dK (rowsV W)] ∧
        Tri W ∧ Grw W ∧ keysOf' W = (a :: b :: c :: rest).take (3 + i) ∧ Drawn ds' ∧ S ≠ [] ∧ S.length = 2 + 4 * i ∧ (∀ q ∈ S, ∃ rx, rowOf W q.1 = some rx ∧ q.2 ∈ rx) ∧ ∀ u r, rowOf W u = some r → r.length ≤ 2 + 3 * i)
      (rest.map .int) 0 [some (.ref d), some (.lst ((a :: b :: c :: rest).map .int)), some (.int a), some (.int b), some (.int c), some (.ref h.length), some (.lst (stepsV [(a, b), (b, a)])), none, none, none, none] ((h.set d (.lst (ds.map .int))) ++ [.dK (rowsV (tri0 a b c))])
      ⟨tri0 a b c, ds, [(a, b), (b, a)], none, none, none, none, rfl, rfl, T0, grw_tri0 n1 n2 n4, rfl, hD, by simp, by simp, by
        intro q hq
        simp only [List.mem_cons, List.not_mem_nil, or_false] at hq
        rcases hq with rfl | rfl
        · exact ⟨[b, c], by simp [tri0, rowOf], by simp⟩
        · exact ⟨[c, a], by simp [tri0, rowOf, n1], by simp⟩, by
        intro u r er
        have := mem_of_rowOf er
        simp only [tri0, List.mem_cons, List.not_mem_nil, or_false, Prod.mk.injEq] at this
        rcases this with ⟨_, rfl⟩ | ⟨_, rfl⟩ | ⟨_, rfl⟩ <;> simp⟩ (by
      rintro i x s h1 ex ⟨W, ds', S, o7, o8, o9, o10, rfl, rfl, T, G, K, D', S1, S2, S3, S4⟩
      rw [List.getElem?_map] at ex
      cases er : rest[i]? with
      | none => rw [er] at ex; cases ex
      | some p =>
        rw [er] at ex
        cases ex
        obtain ⟨hi, hpe⟩ := List.getElem?_eq_some_iff.mp er
        have e3 : (a :: b :: c :: rest)[3 + i]? = some p := by rw [Nat.add_comm 3 i]; exact er
        have K2 : (a :: b :: c :: rest).take (3 + (0 + i + 1)) = keysOf' W ++ [p] := by
          rw [K, show 3 + (0 + i + 1) = (3 + (0 + i)) + 1 by omega, List.take_add_one, show 3 + (0 + i) = 3 + i by omega, e3]
          rfl
        have hp : p ∉ keysOf' W := by
          have nd2 : ((a :: b :: c :: rest).take (3 + (0 + i + 1))).Nodup := hn.1.sublist (List.take_sublist _ _)
          rw [K2, List.nodup_append] at nd2
          exact fun hm => nd2.2.2 p hm p (by simp) rfl
        have hWl : W.length ≤ 3 + i := by rw [← keys_len, K, List.length_take]; omega
        obtain ⟨W', S', o8', o9', o10', g1, g2, g3, g4, g5, g6, g7, g8⟩ := full_step h d hd ds' D' W T S S1 (by omega) S3 (2 + 3 * (0 + i)) (by omega) S4 (by omega) p hp (some (.lst ((a :: b :: c :: rest).map .int))) (some (.int a)) (some (.int b)) (some (.int c)) o8 o9 o10
        exact ⟨_, _, .nx, _, _, rfl, g1, .inl rfl, W', ds'.tail, S', _, _, _, _, rfl, rfl, g2, g8 G, by rw [g3, K2], D'.tail, g4, by omega, g6, fun u r er => by have := g7 u r er; omega⟩)
    rw [Nat.zero_add] at K
    have K' : keysOf' W = a :: b :: c :: rest := by rw [K, List.take_of_length_le (by simp only [List.length_map, List.length_cons]; omega)]
    refine ⟨W, ds', T, G, K', D', ?_⟩
    have e1 : cutM (.int a :: .int b :: .int c :: rest.map MV.int) none (some 3) = [.int a, .int b, .int c] := by rw [cut_to (by omega)]; rfl
    have e2 : cutM (.int a :: .int b :: .int c :: rest.map MV.int) (some 3) none = rest.map .int := by rw [cut_from (by omega)]; rfl
    have tm := tri_merge n1 n2 n4
    have st1 : sAsg (xSlL (xVar 1) xNoPart (xPart (xC (.int 3)))) (gLp 3 (gsCons (gNm 2) (gsCons (gNm 3) (gsCons (gNm 4) gsNil)))) [some (.ref d), some (.lst ((a :: b :: c :: rest).map .int)), none, none, none, none, none, none, none, none, none] h = some (.nx, [some (.ref d), some (.lst ((a :: b :: c :: rest).map .int)), some (.int a), some (.int b), some (.int c), none, none, none, none, none, none], h) := by
      simp only [ewd, e1]
    have st2 : sAsg (xBox (xDisp (((xVar 2), (xLst (xCons (xVar 3) (xCons (xVar 4) xNil)))) :: (((xVar 3), (xLst (xCons (xVar 4) (xCons (xVar 2) xNil)))) :: (((xVar 4), (xLst (xCons (xVar 2) (xCons (xVar 3) xNil)))) :: []))))) (gNm 5) [some (.ref d), some (.lst ((a :: b :: c :: rest).map .int)), some (.int a), some (.int b), some (.int c), none, none, none, none, none, none] h = some (.nx, [some (.ref d), some (.lst ((a :: b :: c :: rest).map .int)), some (.int a), some (.int b), some (.int c), some (.ref h.length), none, none, none, none, none], h ++ [.dK (rowsV (tri0 a b c))]) := by
      simp (discharger := decide) only [sSeq, sAsg, sIf, sRet, sRetN, sExpr, sNext, sPar, sPar3, sBk, sCt, sFor, sPut, gNm, gTp, gsCons, gsNil, xVar, xC, xOp, xUn, xCons, xNil, xArgs, xCall, xTup, xLst, xBox, boxM, xIf, xAnd, xOr, xNot, xB, xAndT, xOrT, xNotT, xAppend, xPop, xPopAt, xExtend, xExtendT, xSlL, xPart, xNoPart, iSeq, iRange1, iRange2, cYes, seqOf, listOf, isLstC, runDef, sBegin, List.map_cons, List.map_nil, List.length_cons, List.length_nil, List.getElem?_cons_zero, List.getElem?_cons_succ, List.getElem?_nil, List.set_cons_zero, List.set_cons_succ, List.cons_append, List.nil_append, List.append_nil, Nat.sub_self, Nat.zero_add, Nat.reduceAdd, Nat.reduceSub, Nat.add_one_sub_one, List.replicate_zero, List.replicate_succ, Option.map_some, if_true, if_false, decide_true, decide_false, Bool.not_true, Bool.not_false, Bool.true_or, Bool.false_or, Bool.or_true, Bool.or_false, Bool.true_and, Bool.false_and, Bool.and_true, Bool.and_false, beq_self_eq_true, opAdd, opSub, opNeg, opLt, opLe, opGt, opGe, fLen, fAbs, fMax2, fMin2, fIsi, tyN, fList, fTuple, fDictP, opCat, opCatT, lstC, fKeys, fKeysS, fSorted, xPairs, xDisp, xUpdate, sForK, gLp, fKeysT, opRevT, iEnumT, keyOf, keyV, opIsBl, opNotBl, dictK, st_NoneType_bool, st_NoneType_int, st_NoneType_str, st_NoneType_tuple, st_NoneType_list, st_NoneType_dict, st_bool_bool, st_bool_int, st_bool_str, st_bool_tuple, st_bool_list, st_bool_dict, st_int_bool, st_int_int, st_int_str, st_int_tuple, st_int_list, st_int_dict, st_str_bool, st_str_int, st_str_str, st_str_tuple, st_str_list, st_str_dict, st_tuple_bool, st_tuple_int, st_tuple_str, st_tuple_tuple, st_tuple_list, st_tuple_dict, st_list_bool, st_list_int, st_list_str, st_list_tuple, st_list_list, st_list_dict, st_dict_bool, st_dict_int, st_dict_str, st_dict_tuple, st_dict_list, st_dict_dict, tm, if_pos]
    have st3 : sAsg (xLst (xCons (xTup (xCons (xVar 2) (xCons (xVar 3) xNil))) (xCons (xTup (xCons (xVar 3) (xCons (xVar 2) xNil))) xNil))) (gNm 6) [some (.ref d), some (.lst ((a :: b :: c :: rest).map .int)), some (.int a), some (.int b), some (.int c), some (.ref h.length), none, none, none, none, none] (h ++ [.dK (rowsV (tri0 a b c))]) = some (.nx, [some (.ref d), some (.lst ((a :: b :: c :: rest).map .int)), some (.int a), some (.int b), some (.int c), some (.ref h.length), some (.lst (stepsV [(a, b), (b, a)])), none, none, none, none], h ++ [.dK (rowsV (tri0 a b c))]) := by
      simp only [ewd, stepsV]
    have it : iSeq (xSlL (xVar 1) (xPart (xC (.int 3))) xNoPart) [some (.ref d), some (.lst ((a :: b :: c :: rest).map .int)), some (.int a), some (.int b), some (.int c), some (.ref h.length), some (.lst (stepsV [(a, b), (b, a)])), none, none, none, none] (h ++ [.dK (rowsV (tri0 a b c))]) = some (.vals (rest.map .int), h ++ [.dK (rowsV (tri0 a b c))]) := by
      simp only [ewd, e2]
    rw [← hset] at eg
    have raw : g__law_full [.ref d, .lst ((a :: b :: c :: rest).map .int)] h = some (.ref h.length, (h.set d (.lst (ds'.map .int))) ++ [.dK (rowsV W)]) :=
      run_rt (b := b__law_full) ((seq_nx st1).trans ((seq_nx st2).trans ((seq_nx st3).trans ((seq_nx ((for_at it).trans eg)).trans (ret_at rfl)))))
    exact toldF_dK raw (get_end (by simp)) (Nat.le_refl _) (plain_rows W) (by simp) (set_plain (plain_ints _))
theorem map_snoc (f : Int → List Int → List Int) (W : WL) (p : Int × List Int) : mapRows f (W ++ [p]) = mapRows f W ++ [(p.1, f p.1 p.2)] := by simp [mapRows]
--@fresh _law_begun
def B1__law_begun : XS := (sSeq (sAsg (xOp opMod (xCall g__law_mixed (xCons (xVar 2) (xCons (xOp opAdd (xVar 6) (xC (.int 1))) xNil))) (xArgs fMax2 (xCons (xC (.int 1)) (xCons (xArgs fLen (xCons (xOp opIx (xVar 1) (xVar 6)) xNil)) xNil)))) (gNm 7))
    (sPut (xVar 3) (xVar 6) (xArgs fTuple (xCons (xCat (xSlL (xOp opIx (xVar 1) (xVar 6)) (xPart (xVar 7)) xNoPart) (xSlL (xOp opIx (xVar 1) (xVar 6)) xNoPart (xPart (xVar 7)))) xNil))))
def b__law_begun : XS := (sSeq (sAsg (xCall g__law_next (xCons (xVar 0) xNil)) (gNm 2))
    (sSeq (sAsg (xBox (xC (.dK []))) (gNm 3))
    (sSeq (sAsg (xUn fKeys (xVar 1)) (gNm 4))
    (sSeq (sAsg (xOp opMod (xVar 2) (xArgs fMax2 (xCons (xC (.int 1)) (xCons (xArgs fLen (xCons (xVar 4) xNil)) xNil)))) (gNm 5))
    (sSeq (sFor (iSeq (xCat (xSlL (xVar 4) (xPart (xVar 5)) xNoPart) (xSlL (xVar 4) xNoPart (xPart (xVar 5))))) (gNm 6) B1__law_begun)
    (sRet (xVar 3)))))))
def g__law_begun : Fn := runDef 8 b__law_begun
theorem d__law_begun {x0 x1 : MV} {h : MH} {R : MV → MH → Prop} (w : Wp (b__law_begun [some x0, some x1, none, none, none, none, none, none] h) fun f _ h1 => kR f fun v => R v h1) : We (g__law_begun [x0, x1] h) R := we_def w

def rotR (n u : Int) (r : List Int) : List Int := r.drop (mixOf n (u + 1) % (if (r.length : Int) > 1 then (r.length : Int) else 1)).toNat ++ r.take (mixOf n (u + 1) % (if (r.length : Int) > 1 then (r.length : Int) else 1)).toNat
theorem rot_perm {α : Type} (k : Nat) (r : List α) : (r.drop k ++ r.take k).Perm r := by
  have := List.perm_append_comm (l₁ := r.drop k) (l₂ := r.take k)
  rwa [List.take_append_drop] at this
theorem begun_rot (h : MH) (d : Nat) (ds : List Int) (e : h[d]? = some (.lst (ds.map .int))) (hD : Drawn ds) (W : WL) (w : Web W) (hn : Names (keysOf' W)) (hl : W.length ≤ 200) (hr : ∀ u r, rowOf W u = some r → r.length ≤ 1000) (rows : MV) (hrow : ∀ h2 : MH, (∀ i c, i ≠ d → h[i]? = some c → h2[i]? = some c) → dictK h2 rows = some (rowsV W) ∧ ∀ u r, rowOf W u = some r → opIx h2 rows (.int u) = some (.lst (r.map .int))) :
    ∃ V, ((keysOf' V).Perm (keysOf' W) ∧ ∀ u r, rowOf W u = some r → ∃ k, rowOf V u = some (r.drop k ++ r.take k)) ∧ Web V ∧ Names (keysOf' V) ∧ V.length = W.length ∧ (toldF g__law_begun) [.ref d, rows] h = some (.dK (websV V), h.set d (.lst (ds.tail.map .int))) := by
  have hd : d < h.length := (List.getElem?_eq_some_iff.mp e).1
  obtain ⟨n0, n1⟩ := hD.head
  have en := next_at ds d h e
  generalize ds.headD 0 = n at n0 n1 en
  have hh2 : (h.set d (.lst (ds.tail.map .int))).length = h.length := by simp
  have keep : ∀ (t : MH), ∀ i c, i ≠ d → h[i]? = some c → ((h.set d (.lst (ds.tail.map .int))) ++ t)[i]? = some c := fun t i c ne ec => get_app (by rw [List.getElem?_set_ne (Ne.symm ne)]; exact ec)
  have rk := fun t => hrow _ (keep t)
  generalize h2e : h.set d (.lst (ds.tail.map .int)) = h2 at en hh2 rk ⊢
  obtain ⟨tn, htn, htl⟩ : ∃ tn : Nat, n % (if ((W.length : Nat) : Int) > 1 then ((W.length : Nat) : Int) else 1) = (tn : Int) ∧ True := by
    have : 0 ≤ n % (if ((W.length : Nat) : Int) > 1 then ((W.length : Nat) : Int) else 1) := Int.emod_nonneg _ (by split <;> omega)
    obtain ⟨k, hk⟩ := Int.eq_ofNat_of_zero_le this
    exact ⟨k, hk, True.intro⟩
  have hp := rot_perm tn W
  have lV : (W.drop tn ++ W.take tn).length = W.length := hp.length_eq
  have kV : keysOf' (W.drop tn ++ W.take tn) = (keysOf' W).drop tn ++ (keysOf' W).take tn := by simp [keysOf', List.map_drop, List.map_take]
  have ndV : (keysOf' (W.drop tn ++ W.take tn)).Nodup := by rw [kV]; exact (rot_perm tn (keysOf' W)).nodup_iff.mpr w.nd
  generalize hVe : W.drop tn ++ W.take tn = V0 at hp lV kV ndV
  obtain ⟨s', h', eg, o6, o7, rfl, rfl⟩ := forGo_run (g := gNm 6) (b := B1__law_begun)
    (fun i s h1 => ∃ o6 o7, s = [some (.ref d), some rows, some (.int n), some (.ref h2.length), some (.lst ((keysOf' W).map .int)), some (.int tn), o6, o7] ∧ h1 = h2 ++ [.dK (websV (mapRows (rotR n) (V0.take i)))])
    ((keysOf' V0).map .int) 0 [some (.ref d), some rows, some (.int n), some (.ref h2.length), some (.lst ((keysOf' W).map .int)), some (.int tn), none, none] (h2 ++ [.dK []]) ⟨none, none, rfl, rfl⟩ (by
    rintro i x s h1 ex ⟨o6, o7, rfl, rfl⟩
    rw [Nat.zero_add]
    rw [List.getElem?_map] at ex
    cases ew : V0[i]? with
    | none =>
      have : (keysOf' V0)[i]? = none := by unfold keysOf'; rw [List.getElem?_map, ew]; rfl
      rw [this] at ex; cases ex
    | some p =>
      obtain ⟨u, r⟩ := p
      have ek : (keysOf' V0)[i]? = some u := by unfold keysOf'; rw [List.getElem?_map, ew]; rfl
      rw [ek] at ex; cases ex
      have eu : rowOf W u = some r := rowOf_of_mem w.nd (hp.mem_iff.mp (List.mem_of_getElem? ew))
      have hu := hn.2 u (rowOf_mem eu)
      have lr := hr u r eu
      have ix := (rk [.dK (websV (mapRows (rotR n) (V0.take i)))]).2 u r eu
      have mx : 0 < (if ((r.length : Nat) : Int) > 1 then ((r.length : Nat) : Int) else 1) := by split <;> omega
      have at0 : 0 ≤ mixOf n (u + 1) % (if ((r.length : Nat) : Int) > 1 then ((r.length : Nat) : Int) else 1) := Int.emod_nonneg _ (by omega)
      have c1 := cut_from (xs := r.map MV.int) at0
      have c2 := cut_to (xs := r.map MV.int) at0
      have zl : ((r.map MV.int).drop (mixOf n (u + 1) % (if ((r.length : Nat) : Int) > 1 then ((r.length : Nat) : Int) else 1)).toNat).length + ((r.map MV.int).take (mixOf n (u + 1) % (if ((r.length : Nat) : Int) > 1 then ((r.length : Nat) : Int) else 1)).toNat).length ≤ szLine := by
        rw [List.length_drop, List.length_take, List.length_map]; unfold szLine; omega
      have er : (r.map MV.int).drop (mixOf n (u + 1) % (if ((r.length : Nat) : Int) > 1 then ((r.length : Nat) : Int) else 1)).toNat ++ (r.map MV.int).take (mixOf n (u + 1) % (if ((r.length : Nat) : Int) > 1 then ((r.length : Nat) : Int) else 1)).toNat = (rotR n u r).map MV.int := by
        unfold rotR
        rw [List.map_append, List.map_drop, List.map_take]
      have st1 : sAsg (xOp opMod (xCall g__law_mixed (xCons (xVar 2) (xCons (xOp opAdd (xVar 6) (xC (.int 1))) xNil))) (xArgs fMax2 (xCons (xC (.int 1)) (xCons (xArgs fLen (xCons (xOp opIx (xVar 1) (xVar 6)) xNil)) xNil)))) (gNm 7) [some (.ref d), some rows, some (.int n), some (.ref h2.length), some (.lst ((keysOf' W).map .int)), some (.int tn), some (.int u), o7] (h2 ++ [.dK (websV (mapRows (rotR n) (V0.take i)))])
          = some (.nx, [some (.ref d), some rows, some (.int n), some (.ref h2.length), some (.lst ((keysOf' W).map .int)), some (.int tn), some (.int u), some (.int (mixOf n (u + 1) % (if ((r.length : Nat) : Int) > 1 then ((r.length : Nat) : Int) else 1)))], h2 ++ [.dK (websV (mapRows (rotR n) (V0.take i)))]) := by
        simp (discharger := first | exact mx | omega) only [sSeq, sAsg, sIf, sRet, sRetN, sExpr, sNext, sPar, sPar3, sBk, sCt, sFor, sPut, gNm, gTp, gsCons, gsNil, xVar, xC, xOp, xUn, xCons, xNil, xArgs, xCall, xTup, xLst, xBox, boxM, xIf, xAnd, xOr, xNot, xB, xAndT, xOrT, xNotT, xAppend, xPop, xPopAt, xExtend, xExtendT, xSlL, xPart, xNoPart, iSeq, iRange1, iRange2, cYes, seqOf, listOf, isLstC, runDef, sBegin, List.map_cons, List.map_nil, List.length_cons, List.length_nil, List.getElem?_cons_zero, List.getElem?_cons_succ, List.getElem?_nil, List.set_cons_zero, List.set_cons_succ, List.cons_append, List.nil_append, List.append_nil, Nat.sub_self, Nat.zero_add, Nat.reduceAdd, Nat.reduceSub, Nat.add_one_sub_one, List.replicate_zero, List.replicate_succ, Option.map_some, if_true, if_false, decide_true, decide_false, Bool.not_true, Bool.not_false, Bool.true_or, Bool.false_or, Bool.or_true, Bool.or_false, Bool.true_and, Bool.false_and, Bool.and_true, Bool.and_false, beq_self_eq_true, opAdd, opSub, opNeg, opLt, opLe, opGt, opGe, fLen, fAbs, fMax2, fMin2, fIsi, tyN, fList, fTuple, fDictP, opCat, opCatT, lstC, fKeys, fKeysS, fSorted, xPairs, xDisp, xUpdate, sForK, gLp, fKeysT, opRevT, iEnumT, keyOf, keyV, opIsBl, opNotBl, dictK, st_NoneType_bool, st_NoneType_int, st_NoneType_str, st_NoneType_tuple, st_NoneType_list, st_NoneType_dict, st_bool_bool, st_bool_int, st_bool_str, st_bool_tuple, st_bool_list, st_bool_dict, st_int_bool, st_int_int, st_int_str, st_int_tuple, st_int_list, st_int_dict, st_str_bool, st_str_int, st_str_str, st_str_tuple, st_str_list, st_str_dict, st_tuple_bool, st_tuple_int, st_tuple_str, st_tuple_tuple, st_tuple_list, st_tuple_dict, st_list_bool, st_list_int, st_list_str, st_list_tuple, st_list_list, st_list_dict, st_dict_bool, st_dict_int, st_dict_str, st_dict_tuple, st_dict_list, st_dict_dict, mixed_at, ix, List.length_map, mod_ok]
      have nk : u ∉ keysOf' (mapRows (rotR n) (V0.take i)) := by
        rw [keys_map]
        intro hm
        have nd : (keysOf' (V0.take (i + 1))).Nodup := by
          have : keysOf' (V0.take (i + 1)) = (keysOf' V0).take (i + 1) := by unfold keysOf'; rw [List.map_take]
          rw [this]; exact ndV.sublist (List.take_sublist _ _)
        rw [take_snoc ew] at nd
        have : keysOf' (V0.take i ++ [(u, r)]) = keysOf' (V0.take i) ++ [u] := by simp [keysOf']
        rw [this, List.nodup_append] at nd
        exact nd.2.2 u hm u (by simp) rfl
      have lw : (mapRows (rotR n) (V0.take i)).length < szLine := by simp only [mapRows, List.length_map, List.length_take]; unfold szLine; omega
      have pw := put_webs (h := h2 ++ [.dK (websV (mapRows (rotR n) (V0.take i)))]) (m := h2.length) (u := u) (r := rotR n u r) get_last lw
      rw [put_app nk, set_last, ← er] at pw
      have mk : mapRows (rotR n) (V0.take (i + 1)) = mapRows (rotR n) (V0.take i) ++ [(u, rotR n u r)] := by rw [take_snoc ew, map_snoc]
      refine ⟨_, _, .nx, [some (.ref d), some rows, some (.int n), some (.ref h2.length), some (.lst ((keysOf' W).map .int)), some (.int tn), some (.int u), some (.int (mixOf n (u + 1) % (if ((r.length : Nat) : Int) > 1 then ((r.length : Nat) : Int) else 1)))], h2 ++ [.dK (websV (mapRows (rotR n) (V0.take (i + 1))))], rfl, (seq_nx st1).trans ?_, .inl rfl, some (.int u), _, rfl, rfl⟩
      rw [mk]
      simp only [ewd, ix, c1, c2, zl, if_true, pw])
  have eW : V0.take (0 + ((keysOf' V0).map MV.int).length) = V0 := by rw [Nat.zero_add, List.length_map, keys_len, List.take_length]
  rw [eW] at eg
  refine ⟨mapRows (rotR n) V0, ⟨by rw [keys_map, kV]; exact rot_perm _ _, fun u r e => ?_⟩, w.perm (rotR n) hp (fun u r => rot_perm _ r), ?_, by simp [mapRows, lV], ?_⟩
  · refine ⟨(mixOf n (u + 1) % (if (r.length : Int) > 1 then (r.length : Int) else 1)).toNat, ?_⟩
    rw [rowOf_map, rowOf_of_mem ndV (hp.mem_iff.mpr (mem_of_rowOf e)), Option.map_some]
    rfl
  · rw [keys_map]
    exact ⟨ndV, fun u hm => hn.2 u (by rw [kV] at hm; exact (rot_perm tn (keysOf' W)).mem_iff.mp hm)⟩
  · have kl : (keysOf' W).length = W.length := keys_len W
    have mx : 0 < (if ((W.length : Nat) : Int) > 1 then ((W.length : Nat) : Int) else 1) := by split <;> omega
    have st1 : sAsg (xCall g__law_next (xCons (xVar 0) xNil)) (gNm 2) [some (.ref d), some rows, none, none, none, none, none, none] h = some (.nx, [some (.ref d), some rows, some (.int n), none, none, none, none, none], h2) := by
      simp only [ewd, en]
    have st2 : sAsg (xBox (xC (.dK []))) (gNm 3) [some (.ref d), some rows, some (.int n), none, none, none, none, none] h2 = some (.nx, [some (.ref d), some rows, some (.int n), some (.ref h2.length), none, none, none, none], h2 ++ [.dK []]) := rfl
    have fk : fKeys (h2 ++ [.dK []]) rows = some (.lst ((keysOf' W).map .int)) := by
      unfold fKeys
      rw [(rk [.dK []]).1, Option.map_some, keysV_rows]
    have st3 : sAsg (xUn fKeys (xVar 1)) (gNm 4) [some (.ref d), some rows, some (.int n), some (.ref h2.length), none, none, none, none] (h2 ++ [.dK []]) = some (.nx, [some (.ref d), some rows, some (.int n), some (.ref h2.length), some (.lst ((keysOf' W).map .int)), none, none, none], h2 ++ [.dK []]) := set_at (un_at rfl fk)
    have st4 : sAsg (xOp opMod (xVar 2) (xArgs fMax2 (xCons (xC (.int 1)) (xCons (xArgs fLen (xCons (xVar 4) xNil)) xNil)))) (gNm 5) [some (.ref d), some rows, some (.int n), some (.ref h2.length), some (.lst ((keysOf' W).map .int)), none, none, none] (h2 ++ [.dK []]) = some (.nx, [some (.ref d), some rows, some (.int n), some (.ref h2.length), some (.lst ((keysOf' W).map .int)), some (.int tn), none, none], h2 ++ [.dK []]) := by
      simp (discharger := first | exact mx | omega) only [sSeq, sAsg, sIf, sRet, sRetN, sExpr, sNext, sPar, sPar3, sBk, sCt, sFor, sPut, gNm, gTp, gsCons, gsNil, xVar, xC, xOp, xUn, xCons, xNil, xArgs, xCall, xTup, xLst, xBox, boxM, xIf, xAnd, xOr, xNot, xB, xAndT, xOrT, xNotT, xAppend, xPop, xPopAt, xExtend, xExtendT, xSlL, xPart, xNoPart, iSeq, iRange1, iRange2, cYes, seqOf, listOf, isLstC, runDef, sBegin, List.map_cons, List.map_nil, List.length_cons, List.length_nil, List.getElem?_cons_zero, List.getElem?_cons_succ, List.getElem?_nil, List.set_cons_zero, List.set_cons_succ, List.cons_append, List.nil_append, List.append_nil, Nat.sub_self, Nat.zero_add, Nat.reduceAdd, Nat.reduceSub, Nat.add_one_sub_one, List.replicate_zero, List.replicate_succ, Option.map_some, if_true, if_false, decide_true, decide_false, Bool.not_true, Bool.not_false, Bool.true_or, Bool.false_or, Bool.or_true, Bool.or_false, Bool.true_and, Bool.false_and, Bool.and_true, Bool.and_false, beq_self_eq_true, opAdd, opSub, opNeg, opLt, opLe, opGt, opGe, fLen, fAbs, fMax2, fMin2, fIsi, tyN, fList, fTuple, fDictP, opCat, opCatT, lstC, fKeys, fKeysS, fSorted, xPairs, xDisp, xUpdate, sForK, gLp, fKeysT, opRevT, iEnumT, keyOf, keyV, opIsBl, opNotBl, dictK, st_NoneType_bool, st_NoneType_int, st_NoneType_str, st_NoneType_tuple, st_NoneType_list, st_NoneType_dict, st_bool_bool, st_bool_int, st_bool_str, st_bool_tuple, st_bool_list, st_bool_dict, st_int_bool, st_int_int, st_int_str, st_int_tuple, st_int_list, st_int_dict, st_str_bool, st_str_int, st_str_str, st_str_tuple, st_str_list, st_str_dict, st_tuple_bool, st_tuple_int, st_tuple_str, st_tuple_tuple, st_tuple_list, st_tuple_dict, st_list_bool, st_list_int, st_list_str, st_list_tuple, st_list_list, st_list_dict, st_dict_bool, st_dict_int, st_dict_str, st_dict_tuple, st_dict_list, st_dict_dict, List.length_map, kl, mod_ok, htn]
    have c1 := cut_from (xs := (keysOf' W).map MV.int) (i := (tn : Int)) (by omega)
    have c2 := cut_to (xs := (keysOf' W).map MV.int) (i := (tn : Int)) (by omega)
    have tt : ((tn : Nat) : Int).toNat = tn := by omega
    rw [tt] at c1 c2
    have zl : (((keysOf' W).map MV.int).drop tn).length + (((keysOf' W).map MV.int).take tn).length ≤ szLine := by
      rw [List.length_drop, List.length_take, List.length_map, kl]; unfold szLine; omega
    have er : ((keysOf' W).map MV.int).drop tn ++ ((keysOf' W).map MV.int).take tn = (keysOf' V0).map .int := by rw [kV, List.map_append, List.map_drop, List.map_take]
    have it : iSeq (xCat (xSlL (xVar 4) (xPart (xVar 5)) xNoPart) (xSlL (xVar 4) xNoPart (xPart (xVar 5)))) [some (.ref d), some rows, some (.int n), some (.ref h2.length), some (.lst ((keysOf' W).map .int)), some (.int tn), none, none] (h2 ++ [.dK []]) = some (.vals ((keysOf' V0).map .int), h2 ++ [.dK []]) := by
      simp only [ewd, c1, c2, zl, if_true, er]
    have raw : g__law_begun [.ref d, rows] h = some (.ref h2.length, h2 ++ [.dK (websV (mapRows (rotR n) V0))]) :=
      run_rt (b := b__law_begun) ((seq_nx st1).trans ((seq_nx st2).trans ((seq_nx st3).trans ((seq_nx st4).trans ((seq_nx ((for_at it).trans eg)).trans (ret_at rfl))))))
    exact toldF_dK raw get_last (by omega) (plain_webs _) hh2 (by rw [← h2e]; exact set_plain (plain_ints _))
/-! ### dicts that are read: a value or a cell -/
def RdD (h : MH) (d : MV) (kvs : List (MK × MV)) : Prop := d = .dK kvs ∨ ∃ m, d = .ref m ∧ h[m]? = some (.dK kvs)
def RdL (h : MH) (d : MV) (kvs : List (MK × MV)) : Prop := d = .dK kvs ∨ ∃ m, d = .ref m ∧ (h[m]? = some (.dK kvs) ∨ h[m]? = some (.lkK kvs))
def lockD (h : MH) (d : MV) : MH := match d with
  | .ref m => match h[m]? with
    | some (.dK kvs) => h.set m (.lkK kvs)
    | _ => h
  | _ => h
section
variable {h : MH} {d : MV} {kvs : List (MK × MV)}
theorem RdD.l (R : RdD h d kvs) : RdL h d kvs := by
  rcases R with e | ⟨m, e1, e2⟩
  · exact .inl e
  · exact .inr ⟨m, e1, .inl e2⟩
theorem get_app' {h t : MH} {m : Nat} {c : MC} (e : h[m]? = some c) : (h ++ t)[m]? = some c := by rw [List.getElem?_append_left (lt_of_get e)]; exact e
theorem RdL.app (R : RdL h d kvs) (t : MH) : RdL (h ++ t) d kvs := by
  rcases R with e | ⟨m, e1, e2 | e2⟩
  · exact .inl e
  · exact .inr ⟨m, e1, .inl (get_app' e2)⟩
  · exact .inr ⟨m, e1, .inr (get_app' e2)⟩
theorem RdD.app (R : RdD h d kvs) (t : MH) : RdD (h ++ t) d kvs := by
  rcases R with e | ⟨m, e1, e2⟩
  · exact .inl e
  · exact .inr ⟨m, e1, get_app' e2⟩
theorem RdL.dict (R : RdL h d kvs) : dictK h d = some kvs := by
  rcases R with rfl | ⟨m, rfl, e2 | e2⟩
  · rfl
  · simp only [dictK, e2]
  · simp only [dictK, e2]
theorem RdL.seq (R : RdL h d kvs) : seqOf h d = none := by
  rcases R with rfl | ⟨m, rfl, e2 | e2⟩
  · rfl
  · simp only [seqOf, listOf, e2]
  · simp only [seqOf, listOf, e2]
theorem lockD_len : (lockD h d).length = h.length := by
  unfold lockD
  split
  · split <;> simp
  · rfl
theorem RdD.lock (R : RdD h d kvs) : RdL (lockD h d) d kvs := by
  rcases R with rfl | ⟨m, rfl, e2⟩
  · exact .inl rfl
  · refine .inr ⟨m, rfl, .inr ?_⟩
    simp only [lockD, e2]
    exact get_set (lt_of_get e2)
theorem forK_rd {n : Nat} {g : XG} {b : XS} {s s' : SM} {H t0 t1 : MH} {f : Fl} (e1 : s[n]? = some (some d)) (R : RdD H d kvs) (e3 : forGo g b (kvs.map fun kv => keyV kv.1) s (lockD H d ++ t0) = some (f, s', lockD H d ++ t1)) : sForK n g b s (H ++ t0) = some (f, s', H ++ t1) := by
  rcases R with rfl | ⟨m, rfl, e2⟩
  · rw [forK_at e1]; exact e3
  · have hm := lt_of_get e2
    have el : lockD H (.ref m) = H.set m (.lkK kvs) := by simp only [lockD, e2]
    rw [el] at e3
    have := forK_ref (g := g) (b := b) (h := H ++ t0) e1 (get_app' e2) (by rw [List.set_append_left _ _ hm]; exact e3) (get_app' (get_set hm))
    rw [this, List.set_append_left _ _ (by simpa using hm), List.set_set, set_same e2]
end
section
variable {h : MH} {d : MV} {W : WL}
theorem ix_rd {u : Int} {r : List Int} (R : RdL h d (websV W)) (q : rowOf W u = some r) : opIx h d (.int u) = some (.row (r.map .int)) := by
  unfold opIx
  simp only [R.seq, look_webs R.dict q]
theorem look_rd (R : RdL h d (websV W)) (p : Int) : lookM h d (.int p) = some ((rowOf W p).map fun r => .row (r.map .int)) := by simp only [lookM, R.dict, keyOf, getK_webs]
theorem notin_rd (R : RdL h d (websV W)) (p : Int) : opNotIn h (.int p) d = some (.bl (!decide (p ∈ keysOf' W))) := by
  unfold opNotIn
  simp only [R.seq, look_rd R, Option.map_some]
  congr 3
  rw [Bool.eq_iff_iff, decide_eq_true_eq, ← rowOf_some, Option.isSome_map]
theorem keysS_rd (R : RdL h d (websV W)) : fKeysS h d = some (.lst ((sortI (keysOf' W)).map .int)) := by
  simp only [fKeysS, R.dict, keysV_webs, ints_of_map, Option.map_some]
end
theorem wp_forKr {n : Nat} {g : XG} {b : XS} {s : SM} {d : MV} {H t0 : MH} {kvs : List (MK × MV)} {Q : Fl → SM → MH → Prop} (e1 : s[n]? = some (some d)) (R : RdD H d kvs) (w : Wp (forGo g b (kvs.map fun kv => keyV kv.1) s (lockD H d ++ t0)) fun f s' h' => ∃ t1, h' = lockD H d ++ t1 ∧ Q f s' (H ++ t1)) : Wp (sForK n g b s (H ++ t0)) Q := by
  obtain ⟨f, s', h', e, t1, rfl, q⟩ := w
  exact ⟨_, _, _, forK_rd e1 R e, q⟩
/-- a dict made by a walk over another's keys -/
theorem keys_rd {n k m : Nat} {e : XE} {D : List (Int × MV)} (nd : (D.map (·.1)).Nodup) (hl : D.length ≤ 100000) {H : MH} {d : MV} (R : RdD H d (dictI D)) {Q : Fl → SM → MH → Prop} (st : Option MV → SM) (o0 : Option MV) (hset : ∀ o x, (st o).set k (some x) = st (some x)) (hk : ∀ x, (st (some x))[k]? = some (some x)) (hd : ∀ o, (st o)[m]? = some (some (.ref H.length)))
    (hn : (st o0)[n]? = some (some d)) (f : Int × MV → MV) (he : ∀ p ∈ D, ∀ c, We (e (st (some (.int p.1))) (lockD H d ++ [c])) fun v h => v = f p ∧ h = lockD H d ++ [c]) (q : ∀ o, Q .nx (st o) (H ++ [.dK (dictI (D.map fun p => (p.1, f p)))])) : Wp (sForK n (gNm k) (sPut (xVar m) (xVar k) e) (st o0) (H ++ [.dK []])) Q := by
  refine wp_forKr hn R ?_
  rw [keysV_dictI]
  have hM : ∀ E : List (Int × MV), (E.map fun p => (p.1, f p)).map (·.1) = E.map (·.1) := fun E => by rw [List.map_map]; rfl
  refine wfor (fun i s h1 => ∃ o, s = st o ∧ h1 = lockD H d ++ [.dK (dictI ((D.take i).map fun p => (p.1, f p)))]) ⟨o0, rfl, rfl⟩ ?_ ?_
  · rintro i x s h1 ex ⟨o, rfl, rfl⟩
    rw [List.getElem?_map, List.getElem?_map] at ex
    cases ep : D[i]? with
    | none => rw [ep] at ex; cases ex
    | some p =>
      rw [ep] at ex; cases ex
      have hi := (List.getElem?_eq_some_iff.mp ep).1
      have ts := take_snoc ep
      have nd2 : ((D.take (i + 1)).map (·.1)).Nodup := nd.sublist ((List.take_sublist (i + 1) D).map _)
      rw [ts, List.map_append, List.nodup_append] at nd2
      have nq : p.1 ∉ ((D.take i).map fun p => (p.1, f p)).map (·.1) := fun z => nd2.2.2 p.1 (by rw [hM] at z; exact z) p.1 (by simp) rfl
      refine wg_nm ?_
      rw [hset]
      refine wp_put (we_mono (he p (List.mem_of_getElem? ep) _) ?_)
      rintro v h2 ⟨rfl, rfl⟩
      refine we_var (hd _) (we_var (hk _) ?_)
      have pw := put_dictI (h := lockD H d ++ [.dK (dictI ((D.take i).map fun p => (p.1, f p)))]) (m := H.length) (v := f p) (by rw [← lockD_len (h := H) (d := d)]; exact get_last) nq (by rw [List.length_map, List.length_take]; unfold szLine; omega)
      refine wm_of pw ⟨.inl rfl, _, rfl, ?_⟩
      rw [show H.length = (lockD H d).length from lockD_len.symm, set_last, ts, List.map_append]
      rfl
  · rintro s h ⟨o, rfl, rfl⟩
    refine ⟨_, rfl, ?_⟩
    rw [List.length_map, List.length_map, List.take_length]
    exact q o
theorem ix_rdI {h : MH} {D : List (Int × MV)} {d : MV} {p : Int × MV} (nd : (D.map (·.1)).Nodup) (R : RdL h d (dictI D)) (hp : p ∈ D) : opIx h d (.int p.1) = some p.2 := by
  unfold opIx
  simp only [R.seq, lookM, R.dict, keyOf, getK_dictI nd (show (p.1, p.2) ∈ D from hp)]
theorem websI_nd {W : WL} (nd : (keysOf' W).Nodup) : ((W.map fun p => (p.1, MV.row (p.2.map .int))).map (·.1)).Nodup := by simpa [keysOf', Function.comp_def] using nd
theorem websI_plain (W : WL) : ∀ p ∈ W.map fun p => (p.1, MV.row (p.2.map .int)), plainV p.2 = true := fun p hp => by
  obtain ⟨q, _, rfl⟩ := List.mem_map.mp hp
  simp only [plainV]; exact plain_ints _
def B1__law_twin : XS := (sPut (xVar 1) (xVar 2) (xOp opIx (xVar 0) (xVar 2)))
def b__law_twin : XS := (sSeq (sAsg (xBox (xC (.dK []))) (gNm 1))
    (sSeq (sForK 0 (gNm 2) B1__law_twin)
    (sRet (xVar 1))))
def g__law_twin : Fn := runDef 3 b__law_twin
theorem d__law_twin {x0 : MV} {h : MH} {R : MV → MH → Prop} (w : Wp (b__law_twin [some x0, none, none] h) fun f _ h1 => kR f fun v => R v h1) : We (g__law_twin [x0] h) R := we_def w

theorem twin_rd (D : List (Int × MV)) (nd : (D.map (·.1)).Nodup) (hl : D.length ≤ 100000) (hp : ∀ p ∈ D, plainV p.2 = true) (H : MH) (d : MV) (R : RdD H d (dictI D)) : (toldF g__law_twin) [d] H = some (.dK (dictI D), H) := by
  have raw : We (g__law_twin [d] H) fun v h => v = .ref H.length ∧ h = H ++ [.dK (dictI D)] := by
    refine d__law_twin ?_
    unfold b__law_twin B1__law_twin
    show wp
    refine keys_rd nd hl R (fun o => [some d, some (.ref H.length), o]) none (fun _ _ => rfl) (fun _ => rfl) (fun _ => rfl) rfl (·.2) (fun p hp c => ?_) fun o => ?_
    · show wp
      show wr (ix_rdI nd (R.lock.app _) hp)
      exact ⟨rfl, rfl⟩
    · show wp
      exact ⟨rfl, by rw [show (D.map fun p => (p.1, p.2)) = D from List.map_id D]⟩
  exact toldF_dK (we_eq raw) get_last (by omega) (plain_dictI hp) rfl same_plain
theorem twin_web (W : WL) (nd : (keysOf' W).Nodup) (hl : W.length ≤ 100000) (H : MH) (d : MV) (R : RdD H d (websV W)) : (toldF g__law_twin) [d] H = some (.dK (websV W), H) := by
  rw [websI] at R ⊢
  exact twin_rd _ (websI_nd nd) (by rw [List.length_map]; exact hl) (websI_plain W) H d R
--@fresh _law_steps
/-- the steps, rising -/
def stepsF (W : WL) (ks : List Int) : List (Int × Int) := ks.flatMap fun u => (sortI (rowsAt W u)).map fun v => (u, v)
def stepsOf (W : WL) : List (Int × Int) := stepsF W (sortI (keysOf' W))
theorem mem_stepsF {W : WL} {ks : List Int} {u v : Int} : (u, v) ∈ stepsF W ks ↔ u ∈ ks ∧ v ∈ rowsAt W u := by
  unfold stepsF
  simp only [List.mem_flatMap, List.mem_map, Prod.mk.injEq]
  constructor
  · rintro ⟨a, ha, b, hb, rfl, rfl⟩
    exact ⟨ha, (sortI_perm _).mem_iff.mp hb⟩
  · rintro ⟨hu, hv⟩
    exact ⟨u, hu, v, (sortI_perm _).mem_iff.mpr hv, rfl, rfl⟩
theorem mem_steps {W : WL} {u v : Int} : (u, v) ∈ stepsOf W ↔ ∃ r, rowOf W u = some r ∧ v ∈ r := by
  unfold stepsOf
  rw [mem_stepsF, (sortI_perm _).mem_iff]
  unfold rowsAt
  constructor
  · rintro ⟨hu, hv⟩
    obtain ⟨r, e⟩ := mem_rowOf hu
    rw [e] at hv
    exact ⟨r, e, hv⟩
  · rintro ⟨r, e, hv⟩
    exact ⟨rowOf_mem e, by rw [e]; exact hv⟩
theorem sortI_lt {r : List Int} (nd : r.Nodup) : (sortI r).Pairwise (· < ·) := by
  have h1 := sortI_sorted r
  have h2 : (sortI r).Nodup := (sortI_perm r).nodup_iff.mpr nd
  exact List.Pairwise.imp (fun {a b} h => by have := h.1; have := h.2; omega) (h1.and h2)
theorem steps_rise {W : WL} (w : Web W) : ∀ {ks : List Int}, ks.Pairwise (· < ·) → (stepsF W ks).Pairwise fun p q => p.1 < q.1 ∨ (p.1 = q.1 ∧ p.2 < q.2)
  | [], _ => by simp [stepsF]
  | k :: ks, h => by
    obtain ⟨h1, h2⟩ := List.pairwise_cons.mp h
    have ih := steps_rise w h2
    unfold stepsF at ih ⊢
    rw [List.flatMap_cons, List.pairwise_append]
    have nr : (rowsAt W k).Nodup := by
      unfold rowsAt
      cases e : rowOf W k with
      | none => exact List.nodup_nil
      | some r => exact (w.row k r e).1
    refine ⟨List.pairwise_map.mpr (List.Pairwise.imp (fun {a b} h => .inr ⟨rfl, h⟩) (sortI_lt nr)), ih, fun p hp q hq => ?_⟩
    obtain ⟨v, _, rfl⟩ := List.mem_map.mp hp
    obtain ⟨u, hu, hq⟩ := List.mem_flatMap.mp hq
    obtain ⟨v', _, rfl⟩ := List.mem_map.mp hq
    exact .inl (h1 u hu)
theorem steps_sorted {W : WL} (w : Web W) : (stepsOf W).Pairwise fun p q => p.1 < q.1 ∨ (p.1 = q.1 ∧ p.2 < q.2) := steps_rise w (sortI_lt w.nd)
theorem steps_nodup {W : WL} (w : Web W) : (stepsOf W).Nodup := List.Pairwise.imp (fun {a b} h e => by subst e; omega) (steps_sorted w)
theorem steps_len {W : WL} (hr : ∀ u r, rowOf W u = some r → r.length ≤ 1000) : ∀ ks : List Int, (stepsF W ks).length ≤ 1000 * ks.length
  | [] => by simp [stepsF]
  | k :: ks => by
    have ih := steps_len hr ks
    unfold stepsF at ih ⊢
    have : (rowsAt W k).length ≤ 1000 := by
      unfold rowsAt
      cases e : rowOf W k with
      | none => simp
      | some r => exact hr k r e
    rw [List.flatMap_cons, List.length_append, List.length_map, (sortI_perm _).length_eq, List.length_cons]
    omega
theorem nxt_inj {r : List Int} (nd : r.Nodup) {u v : Int} (hu : u ∈ r) (hv : v ∈ r) (e : nxt r u = nxt r v) : u = v := by
  have lu := List.idxOf_lt_length_of_mem hu
  have lv := List.idxOf_lt_length_of_mem hv
  have mu := Nat.mod_lt (r.idxOf u + 1) (show 0 < r.length by omega)
  have mv := Nat.mod_lt (r.idxOf v + 1) (show 0 < r.length by omega)
  unfold nxt at e
  rw [List.getElem?_eq_getElem mu, List.getElem?_eq_getElem mv, Option.getD_some, Option.getD_some] at e
  have ei := (List.getElem_inj nd).mp e
  have e3 : r.idxOf u = r.idxOf v := by
    by_cases q1 : r.idxOf u + 1 = r.length
    · by_cases q2 : r.idxOf v + 1 = r.length
      · omega
      · rw [q1, Nat.mod_self, Nat.mod_eq_of_lt (show r.idxOf v + 1 < r.length by omega)] at ei
        omega
    · by_cases q2 : r.idxOf v + 1 = r.length
      · rw [q2, Nat.mod_self, Nat.mod_eq_of_lt (show r.idxOf u + 1 < r.length by omega)] at ei
        omega
      · rw [Nat.mod_eq_of_lt (show r.idxOf v + 1 < r.length by omega), Nat.mod_eq_of_lt (show r.idxOf u + 1 < r.length by omega)] at ei
        omega
  have a := List.getElem_idxOf lu
  have b := List.getElem_idxOf lv
  rw [← a, ← b]
  congr 1
/-- the step behind one -/
def behindF (W : WL) (p : Int × Int) : Int × Int := (p.2, nxt (rowsAt W p.2) p.1)
theorem behind_mem {W : WL} (w : Web W) {p : Int × Int} (hp : p ∈ stepsOf W) : behindF W p ∈ stepsOf W := by
  obtain ⟨u, v⟩ := p
  obtain ⟨r, e, hv⟩ := mem_steps.mp hp
  obtain ⟨r', e', hu⟩ := w.sym u v r e hv
  refine mem_steps.mpr ⟨r', e', ?_⟩
  show nxt (rowsAt W v) u ∈ r'
  unfold rowsAt
  rw [e']
  exact nxt_mem hu
theorem behind_inj {W : WL} (w : Web W) {p q : Int × Int} (hp : p ∈ stepsOf W) (hq : q ∈ stepsOf W) (e : behindF W p = behindF W q) : p = q := by
  obtain ⟨u, v⟩ := p
  obtain ⟨u2, v2⟩ := q
  simp only [behindF, Prod.mk.injEq] at e
  obtain ⟨rfl, e⟩ := e
  obtain ⟨r, e1, hv⟩ := mem_steps.mp hp
  obtain ⟨r', e', hu⟩ := w.sym u v r e1 hv
  obtain ⟨r2, e2, hv2⟩ := mem_steps.mp hq
  obtain ⟨r3, e3, hu2⟩ := w.sym u2 v r2 e2 hv2
  rw [e'] at e3
  cases e3
  unfold rowsAt at e
  rw [e'] at e
  rw [nxt_inj (w.row v r' e').1 hu hu2 e]
theorem map_nodup {α β : Type} (f : α → β) : ∀ {l : List α}, l.Nodup → (∀ a ∈ l, ∀ b ∈ l, f a = f b → a = b) → (l.map f).Nodup
  | [], _, _ => List.nodup_nil
  | x :: l, h, hi => by
    obtain ⟨h1, h2⟩ := List.nodup_cons.mp h
    rw [List.map_cons, List.nodup_cons]
    refine ⟨fun hm => ?_, map_nodup f h2 fun a ha b hb => hi a (List.mem_cons_of_mem _ ha) b (List.mem_cons_of_mem _ hb)⟩
    obtain ⟨y, hy, e⟩ := List.mem_map.mp hm
    have := hi y (List.mem_cons_of_mem _ hy) x List.mem_cons_self e
    exact h1 (this ▸ hy)
theorem perm_of_sub {α : Type} [DecidableEq α] : ∀ {l k : List α}, l.Nodup → (∀ x ∈ l, x ∈ k) → l.length = k.length → l.Perm k
  | [], k, _, _, e => by rw [List.length_eq_zero_iff.mp (show k.length = 0 from e.symm)]
  | x :: l, k, nd, h, e => by
    obtain ⟨h1, h2⟩ := List.nodup_cons.mp nd
    have hx := h x List.mem_cons_self
    have p := List.perm_cons_erase hx
    have := perm_of_sub (k := k.erase x) h2 (fun y hy => by
      have ny : y ≠ x := fun z => h1 (z ▸ hy)
      exact (List.mem_erase_of_ne ny).mpr (h y (List.mem_cons_of_mem _ hy))) (by
      have := p.length_eq
      simp only [List.length_cons] at this e
      omega)
    exact (this.cons x).trans p.symm
theorem row_keys {W : WL} (w : Web W) {u : Int} {r : List Int} (e : rowOf W u = some r) : ∀ v ∈ r, v ∈ keysOf' W := fun v hv => by
  obtain ⟨r', e', _⟩ := w.sym u v r e hv
  exact rowOf_mem e'

--@fresh within



theorem ix_keyR {h : MH} {W : WL} {u : Int} {d : MV} (R : RdL h d (websV W)) (hk : u ∈ keysOf' W) : opIx h d (.int u) = some (.row ((rowsAt W u).map .int)) := by
  obtain ⟨r, er⟩ := mem_rowOf hk
  rw [ix_rd R er]
  unfold rowsAt
  rw [er]; rfl
def B1_within : XS := (sPut (xVar 2) (xVar 3) (xC (.bl true)))
def B2_within : XS := (sPut (xVar 4) (xVar 3) (xArgs fTuple (xCons (xLc (iSeq (xOp opIx (xVar 0) (xVar 3))) (gNm 5) (xB (xOp opIn (xVar 5) (xVar 2))) (xVar 5) [5]) xNil)))
def b_within : XS := (sSeq (sAsg (xBox (xC (.dK []))) (gNm 2))
    (sSeq (sFor (iSeq (xVar 1)) (gNm 3) B1_within)
    (sSeq (sAsg (xBox (xC (.dK []))) (gNm 4))
    (sSeq (sFor (iSeq (xVar 1)) (gNm 3) B2_within)
    (sRet (xVar 4))))))
def g_within : Fn := runDef 6 b_within
theorem d_within {x0 x1 : MV} {h : MH} {R : MV → MH → Prop} (w : Wp (b_within [some x0, some x1, none, none, none, none] h) fun f _ h1 => kR f fun v => R v h1) : We (g_within [x0, x1] h) R := we_def w

/-- the web within some of its points -/
def withF (W : WL) (ps qs : List Int) : WL := qs.map fun p => (p, (rowsAt W p).filter fun q => decide (q ∈ ps))
theorem withF_keys (W : WL) (ps qs : List Int) : keysOf' (withF W ps qs) = qs := by simp [withF, keysOf', Function.comp_def]
theorem rowOf_withF (W : WL) (ps : List Int) (u : Int) : ∀ qs : List Int, rowOf (withF W ps qs) u = if u ∈ qs then some ((rowsAt W u).filter fun q => decide (q ∈ ps)) else none
  | [] => rfl
  | q :: qs => by
    have ih := rowOf_withF W ps u qs
    unfold withF at ih ⊢
    rw [List.map_cons, rowOf]
    by_cases z : q = u
    · subst z; simp
    · rw [if_neg z, ih]
      have : u ∈ q :: qs ↔ u ∈ qs := by simp [Ne.symm z]
      simp only [this]
theorem rowsS {W : WL} (w : Web W) {u v : Int} (h : v ∈ rowsAt W u) : u ∈ rowsAt W v := by
  unfold rowsAt at h ⊢
  cases e : rowOf W u with
  | none => rw [e] at h; simp at h
  | some r =>
    rw [e] at h
    obtain ⟨r', e', hu⟩ := w.sym u v r e h
    rw [e']; exact hu
theorem rowsAt_key {W : WL} {u v : Int} (h : v ∈ rowsAt W u) : u ∈ keysOf' W := by
  unfold rowsAt at h
  cases e : rowOf W u with
  | none => rw [e] at h; simp at h
  | some r => exact rowOf_mem e
theorem rowsAt_ok {W : WL} (w : Web W) (u : Int) : (rowsAt W u).Nodup ∧ u ∉ rowsAt W u := by
  unfold rowsAt
  cases e : rowOf W u with
  | none => simp
  | some r => exact w.row u r e
theorem withF_web {W : WL} (w : Web W) {ps : List Int} (nd : ps.Nodup) : Web (withF W ps ps) := by
  refine ⟨by rw [withF_keys]; exact nd, fun u r e => ?_, fun u v r e hv => ?_⟩
  · rw [rowOf_withF] at e
    split at e
    · cases e
      exact ⟨(rowsAt_ok w u).1.filter _, fun h => (rowsAt_ok w u).2 (List.mem_filter.mp h).1⟩
    · cases e
  · rw [rowOf_withF] at e
    split at e
    · rename_i hu
      cases e
      obtain ⟨a, b⟩ := List.mem_filter.mp hv
      rw [decide_eq_true_eq] at b
      exact ⟨_, by rw [rowOf_withF, if_pos b], List.mem_filter.mpr ⟨rowsS w a, decide_eq_true hu⟩⟩
    · cases e
theorem rowsAt_len {W : WL} (hr : ∀ u r, rowOf W u = some r → r.length ≤ 1000) (u : Int) : (rowsAt W u).length ≤ 1000 := by
  unfold rowsAt
  cases e : rowOf W u with
  | none => simp
  | some r => exact hr u r e
theorem withF_len {W : WL} (hr : ∀ u r, rowOf W u = some r → r.length ≤ 1000) {ps : List Int} : ∀ u r, rowOf (withF W ps ps) u = some r → r.length ≤ 1000 := fun u r e => by
  rw [rowOf_withF] at e
  split at e
  · cases e
    exact Nat.le_trans (List.length_filter_le _ _) (rowsAt_len hr u)
  · cases e
theorem within_rd (W : WL) (ps : List Int) (nd : ps.Nodup) (hk : ∀ p ∈ ps, p ∈ keysOf' W) (hr : ∀ u r, rowOf W u = some r → r.length ≤ 1000) (hl : ps.length ≤ 1000) (x : MV) (hx : ∀ (s : SM) (h : MH), s[1]? = some (some x) → iSeq (xVar 1) s h = some (.vals (ps.map .int), h)) (h : MH) (D : MV) (R : RdL h D (websV W)) :
    (toldF g_within) [D, x] h = some (.dK (websV (withF W ps ps)), h) := by
  have st1 : sAsg (xBox (xC (.dK []))) (gNm 2) [some D, some x, none, none, none, none] h = some (.nx, [some D, some x, some (.ref h.length), none, none, none], h ++ [.dK (seenV [])]) := rfl
  obtain ⟨s1, h1, e1, o3, rfl, rfl⟩ := forGo_run (g := gNm 3) (b := B1_within)
    (fun i s h1 => ∃ o3, s = [some D, some x, some (.ref h.length), o3, none, none] ∧ h1 = h ++ [.dK (seenV (ps.take i))])
    (ps.map .int) 0 [some D, some x, some (.ref h.length), none, none, none] (h ++ [.dK (seenV [])]) ⟨none, rfl, rfl⟩ (by
    rintro i y s h1 ex ⟨o3, rfl, rfl⟩
    rw [Nat.zero_add]
    rw [List.getElem?_map] at ex
    cases ep : ps[i]? with
    | none => rw [ep] at ex; cases ex
    | some p =>
      rw [ep] at ex; cases ex
      have nq : p ∉ ps.take i := fun hm => by
        have n2 := nd.sublist (List.take_sublist (i + 1) ps)
        rw [take_snoc ep, List.nodup_append] at n2
        exact n2.2.2 p hm p (by simp) rfl
      have pw := put_seen (h := h ++ [.dK (seenV (ps.take i))]) (m := h.length) get_last nq (by rw [List.length_take]; unfold szLine; omega)
      rw [set_last, ← take_snoc ep] at pw
      exact ⟨_, _, .nx, _, _, rfl, put_at rfl rfl rfl pw, .inl rfl, some (.int p), rfl, rfl⟩)
  rw [Nat.zero_add, List.length_map, List.take_length] at e1
  have st3 : sAsg (xBox (xC (.dK []))) (gNm 4) [some D, some x, some (.ref h.length), o3, none, none] (h ++ [.dK (seenV ps)]) = some (.nx, [some D, some x, some (.ref h.length), o3, some (.ref (h.length + 1)), none], h ++ [.dK (seenV ps), .dK (websV (withF W ps []))]) := by
    simp only [ews, List.length_append, List.append_assoc]
    rfl
  obtain ⟨s2, h2, e2, o3', o5, rfl, rfl⟩ := forGo_run (g := gNm 3) (b := B2_within)
    (fun i s h1 => ∃ o3 o5, s = [some D, some x, some (.ref h.length), o3, some (.ref (h.length + 1)), o5] ∧ h1 = h ++ [.dK (seenV ps), .dK (websV (withF W ps (ps.take i)))])
    (ps.map .int) 0 [some D, some x, some (.ref h.length), o3, some (.ref (h.length + 1)), none] (h ++ [.dK (seenV ps), .dK (websV (withF W ps []))]) ⟨o3, none, rfl, rfl⟩ (by
    rintro i y s h1 ex ⟨o3, o5, rfl, rfl⟩
    rw [Nat.zero_add]
    rw [List.getElem?_map] at ex
    cases ep : ps[i]? with
    | none => rw [ep] at ex; cases ex
    | some p =>
      rw [ep] at ex; cases ex
      have hp := List.mem_of_getElem? ep
      have nq : p ∉ ps.take i := fun hm => by
        have n2 := nd.sublist (List.take_sublist (i + 1) ps)
        rw [take_snoc ep, List.nodup_append] at n2
        exact n2.2.2 p hm p (by simp) rfl
      have rl := rowsAt_len hr p
      have it : iSeq (xOp opIx (xVar 0) (xVar 3)) [some D, some x, some (.ref h.length), some (.int p), some (.ref (h.length + 1)), o5] (h ++ [.dK (seenV ps), .dK (websV (withF W ps (ps.take i)))]) = some (.vals ((rowsAt W p).map .int), h ++ [.dK (seenV ps), .dK (websV (withF W ps (ps.take i)))]) := seq_row (op_at rfl rfl (ix_keyR (R.app _) (hk p hp)))
      have lc := lcGo_gen (g := gNm 5) (c := xB (xOp opIn (xVar 5) (xVar 2))) (e := xVar 5) (s := [some D, some x, some (.ref h.length), some (.int p), some (.ref (h.length + 1)), none]) (h := h ++ [.dK (seenV ps), .dK (websV (withF W ps (ps.take i)))]) MV.int (fun q => decide (q ∈ ps)) MV.int (rowsAt W p) [] (by rw [List.length_nil]; unfold szLine; omega) (fun q _ =>
        ⟨[some D, some x, some (.ref h.length), some (.int p), some (.ref (h.length + 1)), some (.int q)], rfl, xB_at (op_at rfl rfl (in_seen (get_e0 rfl) q)), fun _ => rfl⟩)
      rw [List.nil_append] at lc
      have lc2 := args1_at (f := fTuple) (lc_at (own := [5]) it lc) tup_lst
      have pw := put_webs (h := h ++ [.dK (seenV ps), .dK (websV (withF W ps (ps.take i)))]) (m := h.length + 1) (W := withF W ps (ps.take i)) (u := p) (r := (rowsAt W p).filter fun q => decide (q ∈ ps)) (get_e1 rfl) (by rw [← keys_len, withF_keys, List.length_take]; unfold szLine; omega)
      rw [set_e1 rfl, put_app (by rw [withF_keys]; exact nq), show withF W ps (ps.take i) ++ [(p, (rowsAt W p).filter fun q => decide (q ∈ ps))] = withF W ps (ps.take (i + 1)) by rw [take_snoc ep]; simp [withF]] at pw
      exact ⟨_, _, .nx, _, _, rfl, put_at lc2 rfl rfl pw, .inl rfl, _, _, rfl, rfl⟩)
  rw [Nat.zero_add, List.length_map, List.take_length] at e2
  have raw : g_within [D, x] h = some (.ref (h.length + 1), h ++ [.dK (seenV ps), .dK (websV (withF W ps ps))]) := run_rt (b := b_within) ((seq_nx st1).trans ((seq_nx ((for_at (hx _ _ rfl)).trans e1)).trans ((seq_nx st3).trans ((seq_nx ((for_at (hx _ _ rfl)).trans e2)).trans (ret_at rfl)))))
  exact toldF_dK raw (get_e1 rfl) (by omega) (plain_webs _) rfl same_plain
/-- the flood's inner loop: those of a row that aren't seen -/
def inF : List Int → List Int → List Int → List Int × List Int
  | [], S, P => (S, P)
  | q :: r, S, P => if q ∈ S then inF r S P else inF r (S ++ [q]) (P ++ [q])
/-- the floods' books: what is seen, what is found -/
structure FlOk (ks S P S' P' : List Int) : Prop where
  nd : S'.Nodup
  sk : ∀ x ∈ S', x ∈ ks
  pk : ∀ x ∈ P', x ∈ ks
  len : S'.length + P.length = S.length + P'.length
  le : P.length ≤ P'.length
  sub : ∀ x ∈ S, x ∈ S'
theorem FlOk.refl {ks S P : List Int} (sn : S.Nodup) (sk : ∀ x ∈ S, x ∈ ks) (pk : ∀ x ∈ P, x ∈ ks) : FlOk ks S P S P := ⟨sn, sk, pk, by omega, by omega, fun _ h => h⟩
theorem FlOk.trans {ks S P S1 P1 S2 P2 : List Int} (a : FlOk ks S P S1 P1) (b : FlOk ks S1 P1 S2 P2) : FlOk ks S P S2 P2 := ⟨b.nd, b.sk, b.pk, by have := a.len; have := b.len; omega, by have := a.le; have := b.le; omega, fun x h => b.sub x (a.sub x h)⟩
theorem snoc_nodup {S : List Int} {q : Int} (sn : S.Nodup) (z : q ∉ S) : (S ++ [q]).Nodup := List.nodup_append.mpr ⟨sn, by simp, fun a ha b hb e => z (by rw [← List.mem_singleton.mp hb, ← e]; exact ha)⟩
theorem snoc_sub {S ks : List Int} {q : Int} (sk : ∀ x ∈ S, x ∈ ks) (hq : q ∈ ks) : ∀ x ∈ S ++ [q], x ∈ ks := fun x hx => by
  rcases List.mem_append.mp hx with w | w
  · exact sk x w
  · rw [List.mem_singleton.mp w]; exact hq
theorem inF_ok {ks : List Int} : ∀ (r S P : List Int), (∀ q ∈ r, q ∈ ks) → S.Nodup → (∀ x ∈ S, x ∈ ks) → (∀ x ∈ P, x ∈ ks) → FlOk ks S P (inF r S P).1 (inF r S P).2
  | [], S, P, _, sn, sk, pk => .refl sn sk pk
  | q :: r, S, P, hr, sn, sk, pk => by
    unfold inF
    split
    · exact inF_ok r S P (fun x hx => hr x (List.mem_cons_of_mem _ hx)) sn sk pk
    · rename_i z
      have hq := hr q List.mem_cons_self
      exact FlOk.trans ⟨snoc_nodup sn z, snoc_sub sk hq, snoc_sub pk hq, by simp; omega, by simp, fun x h => List.mem_append_left _ h⟩ (inF_ok r _ _ (fun x hx => hr x (List.mem_cons_of_mem _ hx)) (snoc_nodup sn z) (snoc_sub sk hq) (snoc_sub pk hq))
def bIn : XS := sIf (xB (xOp opNotIn (xVar 5) (xVar 2))) (sSeq (sPut (xVar 2) (xVar 5) (xC (.bl true))) (sExpr (xAppend (xVar 3) (xVar 5)))) sNext
theorem in_loop (W : MV) (p at0 : MV) (ks : List Int) (kl : ks.length ≤ 1000) (m n : Nat) (H : MH) (hm : m < H.length) (hn : H.length = n) : ∀ (r : List Int), (∀ q ∈ r, q ∈ ks) → ∀ (S P : List Int), S.Nodup → (∀ x ∈ S, x ∈ ks) → (∀ x ∈ P, x ∈ ks) → P.length ≤ S.length + 10 → ∀ (o5 : Option MV),
    ∃ (o5' : Option MV), forGo (gNm 5) bIn (r.map .int) [some W, some p, some (.ref m), some (.ref n), some at0, o5] ((H.set m (.dK (seenV S))) ++ [.lst (P.map .int)]) = some (.nx, [some W, some p, some (.ref m), some (.ref n), some at0, o5'], (H.set m (.dK (seenV (inF r S P).1))) ++ [.lst ((inF r S P).2.map .int)])
  | [], _, S, P, _, _, _, _, o5 => ⟨o5, rfl⟩
  | q :: r, hr, S, P, sn, sk, pk, pl, o5 => by
    have hq := hr q List.mem_cons_self
    have hr' : ∀ x ∈ r, x ∈ ks := fun x hx => hr x (List.mem_cons_of_mem _ hx)
    have c1 : ((H.set m (.dK (seenV S))) ++ [MC.lst (P.map .int)])[m]? = some (.dK (seenV S)) := get_app (get_set hm)
    have sl := sub_len sn sk
    have ei : xOp opNotIn (xVar 5) (xVar 2) [some W, some p, some (.ref m), some (.ref n), some at0, some (.int q)] ((H.set m (.dK (seenV S))) ++ [.lst (P.map .int)]) = some (.bl (!decide (q ∈ S)), (H.set m (.dK (seenV S))) ++ [.lst (P.map .int)]) := op_at rfl rfl (notin_seen c1 q)
    by_cases z : q ∈ S
    · rw [decide_eq_true z] at ei
      obtain ⟨o, e⟩ := in_loop W p at0 ks kl m n H hm hn r hr' S P sn sk pk pl (some (.int q))
      refine ⟨o, ?_⟩
      rw [show inF (q :: r) S P = inF r S P by rw [inF, if_pos z], ← e, List.map_cons, forGo]
      simp only [gNm, List.set_cons_succ, List.set_cons_zero, show bIn [some W, some p, some (.ref m), some (.ref n), some at0, some (.int q)] _ = _ from if_nx ei]
    · rw [decide_eq_false z] at ei
      have pw := put_seen c1 z (by unfold szLine; omega)
      rw [set_app hm] at pw
      have sp : sPut (xVar 2) (xVar 5) (xC (.bl true)) [some W, some p, some (.ref m), some (.ref n), some at0, some (.int q)] ((H.set m (.dK (seenV S))) ++ [.lst (P.map .int)]) = some (.nx, [some W, some p, some (.ref m), some (.ref n), some at0, some (.int q)], (H.set m (.dK (seenV (S ++ [q])))) ++ [.lst (P.map .int)]) := put_at rfl rfl rfl pw
      have c2 : ((H.set m (.dK (seenV (S ++ [q])))) ++ [MC.lst (P.map .int)])[n]? = some (.lst (P.map .int)) := get_end (by simpa using hn)
      have ap := append_at (o := xVar 3) (e := xVar 5) (s := [some W, some p, some (.ref m), some (.ref n), some at0, some (.int q)]) (v := .int q) rfl c2 rfl c2 (by rw [List.length_map]; unfold szLine; omega)
      rw [set_end (by simpa using hn), show P.map MV.int ++ [MV.int q] = (P ++ [q]).map MV.int by simp] at ap
      obtain ⟨o, e⟩ := in_loop W p at0 ks kl m n H hm hn r hr' (S ++ [q]) (P ++ [q]) (snoc_nodup sn z) (snoc_sub sk hq) (snoc_sub pk hq) (by simp; omega) (some (.int q))
      refine ⟨o, ?_⟩
      rw [show inF (q :: r) S P = inF r (S ++ [q]) (P ++ [q]) by rw [inF, if_neg z], ← e, List.map_cons, forGo]
      simp only [gNm, List.set_cons_succ, List.set_cons_zero, show bIn [some W, some p, some (.ref m), some (.ref n), some at0, some (.int q)] _ = _ from (if_t (xB_at ei)).trans ((seq_nx sp).trans (expr_at ap))]

/-- the flood -/
def flF (W : WL) : Nat → Nat → List Int → List Int → List Int × List Int
  | 0, _, S, P => (S, P)
  | k + 1, a, S, P => match P[a]? with
    | none => (S, P)
    | some u => flF W k (a + 1) (inF ((rowOf W u).getD []) S P).1 (inF ((rowOf W u).getD []) S P).2
/-- all parts -/
def ptF (W : WL) : List Int → List Int → List (List Int) → List Int × List (List Int)
  | [], S, L => (S, L)
  | p :: ks, S, L => if p ∈ S then ptF W ks S L else ptF W ks (flF W 902 0 (S ++ [p]) [p]).1 (L ++ [sortI (flF W 902 0 (S ++ [p]) [p]).2])
theorem flF_ok {W : WL} (w : Web W) : ∀ (k a : Nat) (S P : List Int), S.Nodup → (∀ x ∈ S, x ∈ keysOf' W) → (∀ x ∈ P, x ∈ keysOf' W) → FlOk (keysOf' W) S P (flF W k a S P).1 (flF W k a S P).2
  | 0, _, S, P, sn, sk, pk => .refl sn sk pk
  | k + 1, a, S, P, sn, sk, pk => by
    unfold flF
    cases e : P[a]? with
    | none => exact .refl sn sk pk
    | some u =>
      have ok := inF_ok ((rowOf W u).getD []) S P (fun q hq => by
        obtain ⟨r, er⟩ := mem_rowOf (pk u (List.mem_of_getElem? e))
        rw [er] at hq
        obtain ⟨r', er', _⟩ := w.sym u q r er hq
        exact rowOf_mem er') sn sk pk
      exact ok.trans (flF_ok w k (a + 1) _ _ ok.nd ok.sk ok.pk)
def wFl : XT := (xB (xOp opLt (xVar 4) (xArgs fLen (xCons (xVar 3) xNil))))
def bFl : XS := (sSeq (sFor (iSeq (xOp opIx (xVar 0) (xOp opIx (xVar 3) (xVar 4)))) (gNm 5) bIn)
    (sAsg (xOp opAdd (xVar 4) (xC (.int 1))) (gNm 4)))
theorem flood_w (W : WL) (w : Web W) (kl : W.length ≤ 900) (p : Int) (m : Nat) (h : MH) (hm : m < h.length) (D : MV) (hD : ∀ (S : List Int) (P : List MV), RdL ((h.set m (.dK (seenV S))) ++ [.lst P]) D (websV W)) (S0 P0 : List Int) (sn0 : S0.Nodup) (sk0 : ∀ x ∈ S0, x ∈ keysOf' W) (pk0 : ∀ x ∈ P0, x ∈ keysOf' W) (pl0 : P0.length ≤ S0.length + 1) :
    ∃ (a : Nat) (o5 : Option MV), sWhile wFl bFl [some D, some (.int p), some (.ref m), some (.ref h.length), some (.int 0), none] ((h.set m (.dK (seenV S0))) ++ [.lst (P0.map .int)]) =
      some (.nx, [some D, some (.int p), some (.ref m), some (.ref h.length), some (.int (a : Nat)), o5], (h.set m (.dK (seenV (flF W 902 0 S0 P0).1))) ++ [.lst ((flF W 902 0 S0 P0).2.map .int)]) := by
  have lk := keys_len W
  obtain ⟨s', h', ew, S', P, a, o5, rfl, rfl, fe, fp⟩ := sWhile_run (c := wFl) (b := bFl)
    (fun s h1 => ∃ (S P : List Int) (a : Nat) (o5 : Option MV), s = [some D, some (.int p), some (.ref m), some (.ref h.length), some (.int (a : Nat)), o5] ∧ h1 = (h.set m (.dK (seenV S))) ++ [.lst (P.map .int)] ∧ FlOk (keysOf' W) S0 P0 S P ∧ flF W (902 - a) a S P = flF W 902 0 S0 P0)
    (fun s h1 => ∃ (S P : List Int) (a : Nat) (o5 : Option MV), s = [some D, some (.int p), some (.ref m), some (.ref h.length), some (.int (a : Nat)), o5] ∧ h1 = (h.set m (.dK (seenV S))) ++ [.lst (P.map .int)] ∧ S = (flF W 902 0 S0 P0).1 ∧ P = (flF W 902 0 S0 P0).2)
    (fun s _ => match s with | [_, _, _, _, some (.int a), _] => (902 - a).toNat | _ => 0)
    (by
      rintro s h1 ⟨S, P, a, o5, rfl, rfl, ok, fe⟩
      have sl := sub_len ok.nd ok.sk
      have ol := ok.len
      have c2 : ((h.set m (.dK (seenV S))) ++ [MC.lst (P.map .int)])[h.length]? = some (.lst (P.map .int)) := get_end (by simp)
      have ln : xArgs fLen (xCons (xVar 3) xNil) [some D, some (.int p), some (.ref m), some (.ref h.length), some (.int (a : Nat)), o5] ((h.set m (.dK (seenV S))) ++ [.lst (P.map .int)]) = some (.int (P.length : Nat), (h.set m (.dK (seenV S))) ++ [.lst (P.map .int)]) := args1_at rfl (by rw [len_ref c2, List.length_map])
      have ct : wFl [some D, some (.int p), some (.ref m), some (.ref h.length), some (.int (a : Nat)), o5] ((h.set m (.dK (seenV S))) ++ [.lst (P.map .int)]) = some (decide ((a : Int) < (P.length : Nat)), (h.set m (.dK (seenV S))) ++ [.lst (P.map .int)]) := xB_at (op_at rfl ln rfl)
      by_cases q : a < P.length
      · rw [decide_eq_true (by omega)] at ct
        have eu : P[a]? = some P[a] := List.getElem?_eq_getElem q
        generalize P[a] = u at eu
        obtain ⟨r, er⟩ := mem_rowOf (ok.pk u (List.mem_of_getElem? eu))
        have iu : xOp opIx (xVar 3) (xVar 4) [some D, some (.int p), some (.ref m), some (.ref h.length), some (.int (a : Nat)), o5] ((h.set m (.dK (seenV S))) ++ [.lst (P.map .int)]) = some (.int u, (h.set m (.dK (seenV S))) ++ [.lst (P.map .int)]) := op_at rfl rfl (by rw [ix_ref c2]; exact at_nat (by rw [List.getElem?_map, eu]; rfl))
        have ir := seq_row (op_at (f := opIx) (a := xVar 0) (s := [some D, some (.int p), some (.ref m), some (.ref h.length), some (.int (a : Nat)), o5]) (h := (h.set m (.dK (seenV S))) ++ [.lst (P.map .int)]) rfl iu (ix_rd (hD _ _) er))
        have hr : ∀ q ∈ r, q ∈ keysOf' W := fun q hq => by obtain ⟨r', er', _⟩ := w.sym u q r er hq; exact rowOf_mem er'
        obtain ⟨o5', e2⟩ := in_loop D (.int p) (.int (a : Nat)) (keysOf' W) (by omega) m h.length h hm rfl r hr S P ok.nd ok.sk ok.pk (by omega) o5
        have st := (seq_nx (b := sAsg (xOp opAdd (xVar 4) (xC (.int 1))) (gNm 4)) ((for_at ir).trans e2))
        refine .inr ⟨_, .nx, _, _, ct, st.trans rfl, .inl rfl, ⟨_, _, a + 1, o5', rfl, rfl, ok.trans (inF_ok r S P hr ok.nd ok.sk ok.pk), ?_⟩, by
          show (902 - (((a : Nat) : Int) + 1)).toNat < (902 - ((a : Nat) : Int)).toNat
          omega⟩
        rw [← fe, show 902 - a = (902 - (a + 1)) + 1 by omega]
        conv => rhs; unfold flF
        simp only [eu, er, Option.getD_some]
      · rw [decide_eq_false (by omega)] at ct
        have en : P[a]? = none := List.getElem?_eq_none_iff.mpr (by omega)
        have hf : flF W (902 - a) a S P = (S, P) := by
          cases 902 - a with
          | zero => rfl
          | succ k => unfold flF; rw [en]
        rw [hf] at fe
        exact .inl ⟨_, ct, S, P, a, o5, rfl, rfl, by rw [← fe], by rw [← fe]⟩)
    [some D, some (.int p), some (.ref m), some (.ref h.length), some (.int 0), none] ((h.set m (.dK (seenV S0))) ++ [.lst (P0.map .int)]) ⟨S0, P0, 0, none, rfl, rfl, .refl sn0 sk0 pk0, rfl⟩
  subst fe; subst fp
  exact ⟨a, o5, ew⟩
/-- the parts' books -/
structure PtOk (W : WL) (n : Nat) (S : List Int) (L : List (List Int)) : Prop where
  nd : S.Nodup
  sk : ∀ x ∈ S, x ∈ keysOf' W
  ne : ∀ r ∈ L, r ≠ []
  len : n + L.flatten.length = S.length
theorem PtOk.step {W : WL} (w : Web W) {n : Nat} {S : List Int} {L : List (List Int)} (ok : PtOk W n S L) {p : Int} (hp : p ∈ keysOf' W) (z : p ∉ S) : PtOk W n (flF W 902 0 (S ++ [p]) [p]).1 (L ++ [sortI (flF W 902 0 (S ++ [p]) [p]).2]) ∧ p ∈ (flF W 902 0 (S ++ [p]) [p]).1 := by
  have f := flF_ok w 902 0 (S ++ [p]) [p] (snoc_nodup ok.nd z) (snoc_sub ok.sk hp) (fun x hx => by rw [List.mem_singleton.mp hx]; exact hp)
  have fl := f.len
  have fe := f.le
  have ol := ok.len
  have sl := (sortI_perm (flF W 902 0 (S ++ [p]) [p]).2).length_eq
  simp only [List.length_append, List.length_singleton] at fl fe
  refine ⟨⟨f.nd, f.sk, ?_, ?_⟩, f.sub p (by simp)⟩
  · intro r hr
    rcases List.mem_append.mp hr with h | h
    · exact ok.ne r h
    · rw [List.mem_singleton.mp h]
      intro z2
      rw [z2] at sl
      simp only [List.length_nil] at sl
      omega
  · simp only [List.flatten_append, List.flatten_cons, List.flatten_nil, List.append_nil, List.length_append]
    omega
theorem ptF_ok {W : WL} (w : Web W) {n : Nat} : ∀ (ks S : List Int) (L : List (List Int)), (∀ p ∈ ks, p ∈ keysOf' W) → PtOk W n S L → PtOk W n (ptF W ks S L).1 (ptF W ks S L).2 ∧ (∀ x ∈ S, x ∈ (ptF W ks S L).1) ∧ ∀ p ∈ ks, p ∈ (ptF W ks S L).1
  | [], S, L, _, ok => ⟨ok, fun _ h => h, fun _ h => nomatch h⟩
  | p :: ks, S, L, hk, ok => by
    unfold ptF
    have hk' : ∀ q ∈ ks, q ∈ keysOf' W := fun q hq => hk q (List.mem_cons_of_mem _ hq)
    split
    · rename_i z
      obtain ⟨a, b, c⟩ := ptF_ok w ks S L hk' ok
      exact ⟨a, b, fun q hq => by rcases List.mem_cons.mp hq with rfl | hq; exact b _ z; exact c q hq⟩
    · rename_i z
      obtain ⟨ok', hp⟩ := ok.step w (hk p List.mem_cons_self) z
      obtain ⟨a, b, c⟩ := ptF_ok w ks _ _ hk' ok'
      have f := flF_ok w 902 0 (S ++ [p]) [p] (snoc_nodup ok.nd z) (snoc_sub ok.sk (hk p List.mem_cons_self)) (fun x hx => by rw [List.mem_singleton.mp hx]; exact hk p List.mem_cons_self)
      exact ⟨a, fun x hx => b x (f.sub x (List.mem_append_left _ hx)), fun q hq => by rcases List.mem_cons.mp hq with rfl | hq; exact b _ hp; exact c q hq⟩
def partsOf (W : WL) (shut : List Int) : List (List Int) := (ptF W (sortI (keysOf' W)) shut []).2
def B2_part_of : XS := (sIf (xB (xOp opNotIn (xVar 5) (xVar 2))) (sSeq (sPut (xVar 2) (xVar 5) (xC (.bl true)))
    (sExpr (xAppend (xVar 3) (xVar 5)))) sNext)
def W1_part_of : XT := (xB (xOp opLt (xVar 4) (xArgs fLen (xCons (xVar 3) xNil))))
def B1_part_of : XS := (sSeq (sFor (iSeq (xOp opIx (xVar 0) (xOp opIx (xVar 3) (xVar 4)))) (gNm 5) B2_part_of)
    (sAsg (xOp opAdd (xVar 4) (xC (.int 1))) (gNm 4)))
def b_part_of : XS := (sSeq (sAsg (xBox (xLst (xCons (xVar 1) xNil))) (gNm 3))
    (sSeq (sPut (xVar 2) (xVar 1) (xC (.bl true)))
    (sSeq (sAsg (xC (.int 0)) (gNm 4))
    (sSeq (sWhile W1_part_of B1_part_of)
    (sRet (xArgs fTuple (xCons (xArgs fSorted (xCons (xVar 3) xNil)) xNil)))))))
def g_part_of : Fn := runDef 6 b_part_of
theorem d_part_of {x0 x1 x2 : MV} {h : MH} {R : MV → MH → Prop} (w : Wp (b_part_of [some x0, some x1, some x2, none, none, none] h) fun f _ h1 => kR f fun v => R v h1) : We (g_part_of [x0, x1, x2] h) R := we_def w

theorem part_of_rd (W : WL) (w : Web W) (kl : W.length ≤ 900) (p : Int) (hp : p ∈ keysOf' W) (m : Nat) (h : MH) (S : List Int) (e : h[m]? = some (.dK (seenV S))) (sn : S.Nodup) (sk : ∀ x ∈ S, x ∈ keysOf' W) (z : p ∉ S) (D : MV) (hD : ∀ (c : MC) (t : MH), RdL (h.set m c ++ t) D (websV W)) :
    (toldV g_part_of) [D, .int p, .ref m] h = some (.row ((sortI (flF W 902 0 (S ++ [p]) [p]).2).map .int), h.set m (.dK (seenV (flF W 902 0 (S ++ [p]) [p]).1))) := by
  have hm : m < h.length := (List.getElem?_eq_some_iff.mp e).1
  have sl := sub_len sn sk
  have lk := keys_len W
  have st1 : sAsg (xBox (xLst (xCons (xVar 1) xNil))) (gNm 3) [some D, some (.int p), some (.ref m), none, none, none] h = some (.nx, [some D, some (.int p), some (.ref m), some (.ref h.length), none, none], h ++ [.lst ([p].map .int)]) := rfl
  have pw := put_seen (h := h ++ [.lst ([p].map .int)]) (get_app e) z (by unfold szLine; omega)
  rw [List.set_append_left _ _ hm] at pw
  have st2 : sPut (xVar 2) (xVar 1) (xC (.bl true)) [some D, some (.int p), some (.ref m), some (.ref h.length), none, none] (h ++ [.lst ([p].map .int)]) = some (.nx, [some D, some (.int p), some (.ref m), some (.ref h.length), none, none], h.set m (.dK (seenV (S ++ [p]))) ++ [.lst ([p].map .int)]) := put_at rfl rfl rfl pw
  have st3 : sAsg (xC (.int 0)) (gNm 4) [some D, some (.int p), some (.ref m), some (.ref h.length), none, none] (h.set m (.dK (seenV (S ++ [p]))) ++ [.lst ([p].map .int)]) = some (.nx, [some D, some (.int p), some (.ref m), some (.ref h.length), some (.int 0), none], h.set m (.dK (seenV (S ++ [p]))) ++ [.lst ([p].map .int)]) := rfl
  have pk : ∀ x ∈ [p], x ∈ keysOf' W := fun x hx => by rw [List.mem_singleton.mp hx]; exact hp
  obtain ⟨a, o5, ew⟩ := flood_w W w kl p m h hm D (fun _ _ => hD _ _) (S ++ [p]) [p] (snoc_nodup sn z) (snoc_sub sk hp) pk (by simp)
  have ew' : sWhile W1_part_of B1_part_of _ _ = _ := ew
  generalize flF W 902 0 (S ++ [p]) [p] = R at ew' ⊢
  have rt := ret_at (args1_at (f := fTuple) (args1_at (f := fSorted) (a := xVar 3) (s := [some D, some (.int p), some (.ref m), some (.ref h.length), some (.int (a : Nat)), o5]) (h := (h.set m (.dK (seenV R.1))) ++ [.lst (R.2.map .int)]) rfl (sorted_ref (get_end (by simp)))) tup_lst)
  have raw : g_part_of [D, .int p, .ref m] h = some (.row ((sortI R.2).map .int), (h.set m (.dK (seenV R.1))) ++ [.lst (R.2.map .int)]) := run_rt (b := b_part_of) ((seq_nx st1).trans ((seq_nx st2).trans ((seq_nx st3).trans ((seq_nx ew').trans rt))))
  exact toldV_at raw (by simp only [plainV]; exact plain_ints _) (by simp) (set_plain (plain_mapV (f := fun _ => .bl true) (fun _ => rfl) _))
def B1_parts : XS := (sIf (xB (xOp opNotIn (xVar 3) (xVar 2))) (sExpr (xAppend (xVar 1) (xCall (toldV Ew.g_part_of) (xCons (xVar 0) (xCons (xVar 3) (xCons (xVar 2) xNil)))))) sNext)
def b_parts : XS := (sSeq (sAsg (xBox (xLst xNil)) (gNm 1))
    (sSeq (sAsg (xBox (xC (.dK []))) (gNm 2))
    (sSeq (sFor (iSeq (xUn fKeysS (xVar 0))) (gNm 3) B1_parts)
    (sRet (xVar 1)))))
def g_parts : Fn := runDef 4 b_parts
theorem d_parts {x0 : MV} {h : MH} {R : MV → MH → Prop} (w : Wp (b_parts [some x0, none, none, none] h) fun f _ h1 => kR f fun v => R v h1) : We (g_parts [x0] h) R := we_def w

theorem parts_rd (W : WL) (w : Web W) (kl : W.length ≤ 900) (h : MH) (D : MV) (R : RdL h D (websV W)) : (toldF g_parts) [D] h = some (.lst (tupsV (partsOf W [])), h) := by
  have lk := keys_len W
  have st1 : sAsg (xBox (xLst xNil)) (gNm 1) [some D, none, none, none] h = some (.nx, [some D, some (.ref h.length), none, none], h ++ [.lst (tupsV [])]) := rfl
  have st2 : sAsg (xBox (xC (.dK []))) (gNm 2) [some D, some (.ref h.length), none, none] (h ++ [.lst (tupsV [])]) = some (.nx, [some D, some (.ref h.length), some (.ref (h.length + 1)), none], h ++ [.lst (tupsV []), .dK (seenV [])]) := by
    simp only [ews, List.length_append, List.append_assoc]
    rfl
  have it : iSeq (xUn fKeysS (xVar 0)) [some D, some (.ref h.length), some (.ref (h.length + 1)), none] (h ++ [.lst (tupsV []), .dK (seenV [])]) = some (.vals ((sortI (keysOf' W)).map .int), h ++ [.lst (tupsV []), .dK (seenV [])]) := seq_lst (un_at rfl (keysS_rd (R.app _)))
  obtain ⟨s', h', e3, S, L, o3, rfl, rfl, ok, fe⟩ := forGo_run (g := gNm 3) (b := B1_parts)
    (fun i s h1 => ∃ (S : List Int) (L : List (List Int)) (o3 : Option MV), s = [some D, some (.ref h.length), some (.ref (h.length + 1)), o3] ∧ h1 = h ++ [.lst (tupsV L), .dK (seenV S)] ∧ PtOk W 0 S L ∧ ptF W ((sortI (keysOf' W)).drop i) S L = ptF W (sortI (keysOf' W)) [] [])
    ((sortI (keysOf' W)).map .int) 0 [some D, some (.ref h.length), some (.ref (h.length + 1)), none] (h ++ [.lst (tupsV []), .dK (seenV [])]) ⟨[], [], none, rfl, rfl, ⟨List.nodup_nil, by simp, by simp, rfl⟩, rfl⟩ (by
    rintro i x s h1 ex ⟨S, L, o3, rfl, rfl, ok, fe⟩
    rw [Nat.zero_add] at fe ⊢
    rw [List.getElem?_map] at ex
    cases ep : (sortI (keysOf' W))[i]? with
    | none => rw [ep] at ex; cases ex
    | some p =>
      rw [ep] at ex; cases ex
      have hp := (sortI_perm (keysOf' W)).mem_iff.mp (List.mem_of_getElem? ep)
      have sl := sub_len ok.nd ok.sk
      have dr : (sortI (keysOf' W)).drop i = p :: (sortI (keysOf' W)).drop (i + 1) := by
        obtain ⟨hi, rfl⟩ := List.getElem?_eq_some_iff.mp ep
        exact List.drop_eq_getElem_cons hi
      rw [dr, ptF] at fe
      have c1 : (h ++ [.lst (tupsV L), .dK (seenV S)])[h.length + 1]? = some (.dK (seenV S)) := get_e1 rfl
      have ei : xOp opNotIn (xVar 3) (xVar 2) [some D, some (.ref h.length), some (.ref (h.length + 1)), some (.int p)] (h ++ [.lst (tupsV L), .dK (seenV S)]) = some (.bl (!decide (p ∈ S)), h ++ [.lst (tupsV L), .dK (seenV S)]) := op_at rfl rfl (notin_seen c1 p)
      by_cases z : p ∈ S
      · rw [decide_eq_true z] at ei
        rw [if_pos z] at fe
        exact ⟨_, _, .nx, _, _, rfl, if_nx ei, .inl rfl, S, L, _, rfl, rfl, ok, fe⟩
      · rw [decide_eq_false z] at ei
        rw [if_neg z] at fe
        have ef := part_of_rd W w kl p hp (h.length + 1) (h ++ [.lst (tupsV L), .dK (seenV S)]) S c1 ok.nd ok.sk z D (fun c t => by rw [set_e1 rfl, List.append_assoc]; exact R.app _)
        obtain ⟨ok', _⟩ := ok.step w hp z
        generalize flF W 902 0 (S ++ [p]) [p] = Rr at ef fe ok'
        rw [set_e1 rfl] at ef
        have cf : xCall (toldV g_part_of) (xCons (xVar 0) (xCons (xVar 3) (xCons (xVar 2) xNil))) [some D, some (.ref h.length), some (.ref (h.length + 1)), some (.int p)] (h ++ [.lst (tupsV L), .dK (seenV S)]) = _ := (call_3 rfl rfl rfl).trans ef
        have ln := len_flat L ok.ne
        have oln := ok.len
        have ap := append_at (o := xVar 1) (s := [some D, some (.ref h.length), some (.ref (h.length + 1)), some (.int p)]) rfl (get_e0 rfl) cf (get_e0 rfl) (by unfold tupsV; rw [List.length_map]; unfold szLine; omega)
        rw [set_e0 rfl, show tupsV L ++ [.row ((sortI Rr.2).map .int)] = tupsV (L ++ [sortI Rr.2]) by simp [tupsV]] at ap
        exact ⟨_, _, .nx, _, _, rfl, (if_t (xB_at ei)).trans (expr_at ap), .inl rfl, Rr.1, L ++ [sortI Rr.2], _, rfl, rfl, ok', fe⟩)
  rw [Nat.zero_add, List.length_map, List.drop_length] at fe
  have eL : L = partsOf W [] := by unfold partsOf; rw [← fe]; rfl
  have raw : g_parts [D] h = some (.ref h.length, h ++ [.lst (tupsV L), .dK (seenV S)]) := run_rt (b := b_parts) ((seq_nx st1).trans ((seq_nx st2).trans ((seq_nx ((for_at it).trans e3)).trans (ret_at rfl))))
  rw [← eL]
  exact toldF_lst raw (get_e0 rfl) (by omega) (plain_tups L) rfl same_plain
/-! ### layers -/
def newF : List Int → List Int → List Int
  | [], _ => []
  | q :: r, S => if q ∈ S then newF r S else q :: newF r (S ++ [q])
theorem inF_new : ∀ (r S P : List Int), inF r S P = (S ++ newF r S, P ++ newF r S)
  | [], S, P => by simp [inF, newF]
  | q :: r, S, P => by
    unfold inF newF
    split
    · exact inF_new r S P
    · rw [inF_new r (S ++ [q]) (P ++ [q])]
      simp
def tiesOf (W : WL) : List (Int × Int) := (stepsOf W).filter fun p => decide (p.1 < p.2)
theorem steps_same {W V : WL} (ks : (keysOf' V).Perm (keysOf' W)) (row : ∀ u r, rowOf W u = some r → ∃ r', rowOf V u = some r' ∧ r'.Perm r) : stepsOf V = stepsOf W := by
  unfold stepsOf
  rw [sortI_eq ks]
  have : ∀ ks : List Int, (∀ u ∈ ks, u ∈ keysOf' W) → stepsF V ks = stepsF W ks := by
    intro ks
    induction ks with
    | nil => intro _; rfl
    | cons u ks ih =>
      intro h
      have ih' := ih fun v hv => h v (List.mem_cons_of_mem _ hv)
      unfold stepsF at ih' ⊢
      rw [List.flatMap_cons, List.flatMap_cons, ih']
      obtain ⟨r, er⟩ := mem_rowOf (h u List.mem_cons_self)
      obtain ⟨r', ek, pk⟩ := row u r er
      rw [show sortI (rowsAt V u) = sortI (rowsAt W u) by unfold rowsAt; rw [er, ek]; exact sortI_eq pk]
  exact this _ fun u hu => (sortI_perm _).mem_iff.mp hu
def tiesF (W : WL) (ks : List Int) : List (Int × Int) := (stepsF W ks).filter fun p => decide (p.1 < p.2)
def B1_ties : XS := (sExpr (xExtend (xVar 1) (xLc (iSeq (xArgs fSorted (xCons (xOp opIx (xVar 0) (xVar 2)) xNil))) (gNm 3) (xB (xOp opLt (xVar 2) (xVar 3))) (xTup (xCons (xVar 2) (xCons (xVar 3) xNil))) [3])))
def b_ties : XS := (sSeq (sAsg (xBox (xLst xNil)) (gNm 1))
    (sSeq (sFor (iSeq (xUn fKeysS (xVar 0))) (gNm 2) B1_ties)
    (sRet (xVar 1))))
def g_ties : Fn := runDef 4 b_ties
theorem d_ties {x0 : MV} {h : MH} {R : MV → MH → Prop} (w : Wp (b_ties [some x0, none, none, none] h) fun f _ h1 => kR f fun v => R v h1) : We (g_ties [x0] h) R := we_def w

theorem ties_rd (W : WL) (kl : W.length ≤ 1000) (hr : ∀ u r, rowOf W u = some r → r.length ≤ 1000) (h : MH) (d : MV) (R : RdL h d (websV W)) : (toldF g_ties) [d] h = some (.lst ((tiesOf W).map pairV), h) := by
  have lk := keys_len W
  have st1 : sAsg (xBox (xLst xNil)) (gNm 1) [some d, none, none, none] h = some (.nx, [some d, some (.ref h.length), none, none], h ++ [.lst ((tiesF W []).map pairV)]) := rfl
  have it : iSeq (xUn fKeysS (xVar 0)) [some d, some (.ref h.length), none, none] (h ++ [.lst ((tiesF W []).map pairV)]) = some (.vals ((sortI (keysOf' W)).map .int), h ++ [.lst ((tiesF W []).map pairV)]) := seq_lst (un_at rfl (keysS_rd (R.app _)))
  obtain ⟨s', h', e, o2, o3, rfl, rfl⟩ := forGo_run (g := gNm 2) (b := B1_ties)
    (fun i s h1 => ∃ o2 o3, s = [some d, some (.ref h.length), o2, o3] ∧ h1 = h ++ [.lst ((tiesF W ((sortI (keysOf' W)).take i)).map pairV)])
    ((sortI (keysOf' W)).map .int) 0 [some d, some (.ref h.length), none, none] (h ++ [.lst ((tiesF W []).map pairV)]) ⟨none, none, rfl, rfl⟩ (by
    rintro i x s h1 ex ⟨o2, o3, rfl, rfl⟩
    rw [Nat.zero_add]
    rw [List.getElem?_map] at ex
    cases eu : (sortI (keysOf' W))[i]? with
    | none => rw [eu] at ex; cases ex
    | some u =>
      rw [eu] at ex; cases ex
      have hi := (List.getElem?_eq_some_iff.mp eu).1
      have sl := (sortI_perm (keysOf' W)).length_eq
      obtain ⟨r, er⟩ := mem_rowOf ((sortI_perm (keysOf' W)).mem_iff.mp (List.mem_of_getElem? eu))
      have hrl := hr u r er
      have tl := steps_len hr ((sortI (keysOf' W)).take i)
      rw [List.length_take] at tl
      have fl := List.length_filter_le (fun p : Int × Int => decide (p.1 < p.2)) (stepsF W ((sortI (keysOf' W)).take i))
      rw [show (stepsF W ((sortI (keysOf' W)).take i)).filter (fun p => decide (p.1 < p.2)) = tiesF W ((sortI (keysOf' W)).take i) from rfl] at fl
      generalize hS : tiesF W ((sortI (keysOf' W)).take i) = S at fl
      have sl2 := (sortI_perm r).length_eq
      have it2 : iSeq (xArgs fSorted (xCons (xOp opIx (xVar 0) (xVar 2)) xNil)) [some d, some (.ref h.length), some (.int u), o3] (h ++ [.lst (S.map pairV)]) = some (.vals ((sortI r).map .int), h ++ [.lst (S.map pairV)]) := seq_lst (args1_at (op_at rfl rfl (ix_rd (R.app _) er)) (by simp only [fSorted, seqOf, ints_of_map]))
      have lc := lcGo_gen (g := gNm 3) (c := xB (xOp opLt (xVar 2) (xVar 3))) (e := xTup (xCons (xVar 2) (xCons (xVar 3) xNil))) (s := [some d, some (.ref h.length), some (.int u), none]) (h := h ++ [.lst (S.map pairV)]) MV.int (fun v => decide (u < v)) (fun v => pairV (u, v)) (sortI r) [] (by rw [List.length_nil]; unfold szLine; omega) (fun v _ => ⟨[some d, some (.ref h.length), some (.int u), some (.int v)], rfl, rfl, fun _ => rfl⟩)
      have em : ((sortI r).filter fun v => decide (u < v)).map (fun v => pairV (u, v)) = (((sortI r).map fun v => (u, v)).filter fun p : Int × Int => decide (p.1 < p.2)).map pairV := by
        rw [List.filter_map, List.map_map]; rfl
      rw [List.nil_append, em] at lc
      have lc2 := lc_at (own := [3]) it2 lc
      have fl2 := List.length_filter_le (fun p : Int × Int => decide (p.1 < p.2)) ((sortI r).map fun v => (u, v))
      rw [List.length_map] at fl2
      have xt := extend_at (o := xVar 1) (s := [some d, some (.ref h.length), some (.int u), o3]) rfl (get_last (h := h) (c := .lst (S.map pairV))) lc2 get_last (by rw [List.length_map, List.length_map]; unfold szLine; omega)
      rw [set_last, ← List.map_append] at xt
      refine ⟨_, _, .nx, _, _, rfl, expr_at xt, .inl rfl, some (.int u), o3, rfl, ?_⟩
      rw [take_snoc eu, ← hS]
      simp [tiesF, stepsF, rowsAt, er])
  rw [Nat.zero_add, List.length_map, List.take_length] at e
  have raw : g_ties [d] h = some (.ref h.length, h ++ [.lst ((tiesOf W).map pairV)]) := run_rt (b := b_ties) ((seq_nx st1).trans ((seq_nx ((for_at it).trans e)).trans (ret_at rfl)))
  exact toldF_lst raw get_last (by omega) (plain_pairs _) rfl same_plain
theorem ties_at (W : WL) (kl : W.length ≤ 1000) (hr : ∀ u r, rowOf W u = some r → r.length ≤ 1000) (h : MH) : (toldF g_ties) [.dK (websV W)] h = some (.lst ((tiesOf W).map pairV), h) := ties_rd W kl hr h _ (.inl rfl)


def b_behind : XS := (sSeq (sAsg (xOp opIx (xVar 0) (xVar 2)) (gNm 3))
    (sRet (xTup (xCons (xVar 2) (xCons (xOp opIx (xVar 3) (xOp opMod (xOp opAdd (xOp opIndexL (xVar 3) (xVar 1)) (xC (.int 1))) (xArgs fLen (xCons (xVar 3) xNil)))) xNil)))))
def g_behind : Fn := runDef 4 b_behind
theorem d_behind {x0 x1 x2 : MV} {h : MH} {R : MV → MH → Prop} (w : Wp (b_behind [some x0, some x1, some x2, none] h) fun f _ h1 => kR f fun v => R v h1) : We (g_behind [x0, x1, x2] h) R := we_def w

theorem behind_rowR (h : MH) (W : WL) (D : MV) (R : RdL h D (websV W)) (u v : Int) (r : List Int) (er : rowOf W v = some r) (hu : u ∈ r) (hl : r.length ≤ 1000) : g_behind [D, .int u, .int v] h = some (.tup [.int v, .int (nxt r u)], h) := by
  have lu := List.idxOf_lt_length_of_mem hu
  have mu := Nat.mod_lt (r.idxOf u + 1) (show 0 < r.length by omega)
  have st1 : sAsg (xOp opIx (xVar 0) (xVar 2)) (gNm 3) [some D, some (.int u), some (.int v), none] h = some (.nx, [some D, some (.int u), some (.int v), some (.row (r.map .int))], h) := set_at (op_at rfl rfl (ix_rd R er))
  have ei : xOp opIndexL (xVar 3) (xVar 1) [some D, some (.int u), some (.int v), some (.row (r.map .int))] h = some (.int (r.idxOf u : Nat), h) := op_at rfl rfl (by simp only [opIndexL, opIndexR, ints_of_map, if_pos hu])
  have em : xOp opMod (xOp opAdd (xOp opIndexL (xVar 3) (xVar 1)) (xC (.int 1))) (xArgs fLen (xCons (xVar 3) xNil)) [some D, some (.int u), some (.int v), some (.row (r.map .int))] h = some (.int (((r.idxOf u + 1) % r.length : Nat) : Int), h) := by
    refine op_at (op_at ei rfl rfl) (args1_at rfl len_row) ?_
    rw [List.length_map, mod_ok (by omega)]
    rfl
  have ex : xOp opIx (xVar 3) (xOp opMod (xOp opAdd (xOp opIndexL (xVar 3) (xVar 1)) (xC (.int 1))) (xArgs fLen (xCons (xVar 3) xNil))) [some D, some (.int u), some (.int v), some (.row (r.map .int))] h = some (.int (nxt r u), h) := by
    refine op_at rfl em ((ix_r _ _ _).trans (at_nat ?_))
    rw [List.getElem?_map, List.getElem?_eq_getElem mu]
    unfold nxt
    rw [List.getElem?_eq_getElem mu]
    rfl
  exact run_rt (b := b_behind) ((seq_nx st1).trans (ret_at (by simp only [xTup, xCons, xNil, ex, xVar, List.getElem?_cons_succ, List.getElem?_cons_zero])))
def keyT (p : Int × Int) : List MK := [.inl p.1, .inl p.2]
def seenT (S : List (Int × Int)) : List (List MK × MV) := S.map fun p => (keyT p, .bl true)
theorem keyT_inj {p q : Int × Int} : keyT p = keyT q ↔ p = q := by
  unfold keyT
  simp [Prod.ext_iff]
theorem getK_seenT : ∀ (S : List (Int × Int)) (p : Int × Int), getK (seenT S) (keyT p) = if p ∈ S then some (.bl true) else none
  | [], p => by simp [seenT, getK]
  | q :: S, p => by
    have ih := getK_seenT S p
    unfold seenT at ih ⊢
    rw [List.map_cons, getK_cons, ih]
    by_cases e : q = p
    · subst e; simp
    · rw [if_neg (fun z => e (keyT_inj.mp z))]
      have : p ∈ q :: S ↔ p ∈ S := by simp [Ne.symm e]
      simp only [this]
theorem notin_seenT {h : MH} {m : Nat} {S : List (Int × Int)} (e : h[m]? = some (.dT (seenT S))) (p : Int × Int) : opNotIn h (pairV p) (.ref m) = some (.bl (!decide (p ∈ S))) := by
  have e1 : lookM h (.ref m) (pairV p) = some (getK (seenT S) (keyT p)) := by simp only [lookM, pairV, dictT, e, keysOf, keyOf, keyT]
  have e2 : seqOf h (.ref m) = none := by simp only [seqOf, listOf, e]
  simp only [opNotIn, e2, e1, Option.map_some, getK_seenT]
  by_cases z : p ∈ S
  · rw [if_pos z, decide_eq_true z]; rfl
  · rw [if_neg z, decide_eq_false z]; rfl
theorem put_seenT {h : MH} {m : Nat} {S : List (Int × Int)} {p : Int × Int} (e : h[m]? = some (.dT (seenT S))) (hp : p ∉ S) (hz : S.length < szLine) : stM h (.ref m) (pairV p) (.bl true) = some (h.set m (.dT (seenT (S ++ [p])))) := by
  have hz' : (seenT S).length < szLine := by simpa [seenT] using hz
  have e1 : keysOf [MV.int p.1, .int p.2] = some (keyT p) := rfl
  simp only [stM, e, pairV, e1, hz', if_true]
  have : putM (seenT S) (keyT p) (.bl true) = seenT (S ++ [p]) := by
    unfold putM
    rw [if_neg]
    · simp [seenT]
    · intro z
      rw [List.any_eq_true] at z
      obtain ⟨kv, hm, e2⟩ := z
      obtain ⟨q, hq, rfl⟩ := List.mem_map.mp hm
      have := keyT_inj.mp (of_decide_eq_true e2)
      exact hp (this ▸ hq)
  rw [this]
/-! ### a face's walk -/
/-- a face's steps -/
def fcF (W : WL) (s0 : Int × Int) : Nat → Int × Int → List (Int × Int) → List (Int × Int)
  | 0, _, L => L
  | k + 1, p, L => if p = s0 then L else fcF W s0 k (behindF W p) (L ++ [p])
def faceOf (W : WL) (s0 : Int × Int) : List (Int × Int) := fcF W s0 ((stepsOf W).length + 1) (behindF W s0) [s0]
theorem sub_len' {α : Type} [DecidableEq α] : ∀ {l k : List α}, l.Nodup → (∀ x ∈ l, x ∈ k) → l.length ≤ k.length
  | [], k, _, _ => Nat.zero_le _
  | x :: l, k, nd, h => by
    obtain ⟨h1, h2⟩ := List.nodup_cons.mp nd
    have p := (List.perm_cons_erase (h x List.mem_cons_self)).length_eq
    have := sub_len' (k := k.erase x) h2 (fun y hy => (List.mem_erase_of_ne (fun z => h1 (by rw [← z]; exact hy))).mpr (h y (List.mem_cons_of_mem _ hy)))
    simp only [List.length_cons] at p ⊢
    omega
/-- a set of steps that is closed -/
structure SnOk (W : WL) (S : List (Int × Int)) : Prop where
  nd : S.Nodup
  sub : ∀ x ∈ S, x ∈ stepsOf W
  cl : ∀ x ∈ S, behindF W x ∈ S
theorem SnOk.back {W : WL} (w : Web W) {S : List (Int × Int)} (ok : SnOk W S) {x : Int × Int} (hx : x ∈ stepsOf W) (h : behindF W x ∈ S) : x ∈ S := by
  have p : (S.map (behindF W)).Perm S := perm_of_sub (map_nodup _ ok.nd fun a ha b hb => behind_inj w (ok.sub a ha) (ok.sub b hb)) (fun y hy => by
    obtain ⟨z, hz, rfl⟩ := List.mem_map.mp hy
    exact ok.cl z hz) (by simp)
  obtain ⟨y, hy, e⟩ := List.mem_map.mp (p.mem_iff.mpr h)
  rw [← behind_inj w (ok.sub y hy) hx e]
  exact hy
/-- a face under way -/
structure FcOk (W : WL) (s0 : Int × Int) (S L : List (Int × Int)) (p : Int × Int) : Prop where
  nd : L.Nodup
  sub : ∀ x ∈ L, x ∈ stepsOf W
  mem : s0 ∈ L
  out : ∀ x ∈ L, x ∉ S
  last : ∃ M z, L = M ++ [z] ∧ p = behindF W z ∧ (∀ y ∈ M, behindF W y ∈ L) ∧ ∀ x ∈ L, x ≠ s0 → ∃ y ∈ M, behindF W y = x
theorem FcOk.start {W : WL} {s0 : Int × Int} {S : List (Int × Int)} (h0 : s0 ∈ stepsOf W) (hS : s0 ∉ S) : FcOk W s0 S [s0] (behindF W s0) :=
  ⟨by simp, fun x hx => by rw [List.mem_singleton.mp hx]; exact h0, by simp, fun x hx => by rw [List.mem_singleton.mp hx]; exact hS, [], s0, rfl, rfl, by simp, fun x hx ne => absurd (List.mem_singleton.mp hx) ne⟩
theorem FcOk.here {W : WL} (w : Web W) {s0 : Int × Int} {S L : List (Int × Int)} {p : Int × Int} (ok : FcOk W s0 S L p) : p ∈ stepsOf W := by
  obtain ⟨M, z, e, rfl, _⟩ := ok.last
  exact behind_mem w (ok.sub z (by rw [e]; simp))
theorem FcOk.step {W : WL} (w : Web W) {s0 : Int × Int} {S L : List (Int × Int)} {p : Int × Int} (sn : SnOk W S) (ok : FcOk W s0 S L p) (ne : p ≠ s0) : FcOk W s0 S (L ++ [p]) (behindF W p) := by
  have hp := ok.here w
  obtain ⟨M, z, e, ep, h1, h2⟩ := ok.last
  have hz : z ∈ L := by rw [e]; simp
  have np : p ∉ L := fun hm => by
    obtain ⟨y, hy, ey⟩ := h2 p hm ne
    have hyL : y ∈ L := by rw [e]; exact List.mem_append_left _ hy
    have := behind_inj w (ok.sub y hyL) (ok.sub z hz) (ey.trans ep)
    have nd := ok.nd
    rw [e, List.nodup_append] at nd
    exact nd.2.2 y hy z (by simp) this
  refine ⟨List.nodup_append.mpr ⟨ok.nd, by simp, fun a ha b hb q => np (by rw [← List.mem_singleton.mp hb, ← q]; exact ha)⟩, fun x hx => ?_, List.mem_append_left _ ok.mem, fun x hx => ?_, L, p, rfl, rfl, fun y hy => ?_, fun x hx nx => ?_⟩
  · rcases List.mem_append.mp hx with q | q
    · exact ok.sub x q
    · rw [List.mem_singleton.mp q]; exact hp
  · rcases List.mem_append.mp hx with q | q
    · exact ok.out x q
    · rw [List.mem_singleton.mp q]
      intro hs
      rw [ep] at hs
      exact ok.out z hz (sn.back w (ok.sub z hz) hs)
  · have hy' := hy
    rw [e] at hy'
    rcases List.mem_append.mp hy' with q | q
    · exact List.mem_append_left _ (h1 y q)
    · rw [List.mem_singleton.mp q, ← ep]; simp
  · rcases List.mem_append.mp hx with q | q
    · obtain ⟨y, hy, ey⟩ := h2 x q nx
      exact ⟨y, by rw [e]; exact List.mem_append_left _ hy, ey⟩
    · exact ⟨z, hz, by rw [List.mem_singleton.mp q, ← ep]⟩
theorem FcOk.len {W : WL} {s0 : Int × Int} {S L : List (Int × Int)} {p : Int × Int} (ok : FcOk W s0 S L p) : L.length ≤ (stepsOf W).length := sub_len' ok.nd ok.sub
theorem FcOk.done {W : WL} {s0 : Int × Int} {S L : List (Int × Int)} {p : Int × Int} (ok : FcOk W s0 S L p) (e : p = s0) : ∀ x ∈ L, behindF W x ∈ L := by
  obtain ⟨M, z, eL, ep, h1, _⟩ := ok.last
  intro x hx
  have hx' := hx
  rw [eL] at hx'
  rcases List.mem_append.mp hx' with q | q
  · exact h1 x q
  · rw [List.mem_singleton.mp q, ← ep, e]; exact ok.mem
/-- a face -/
structure FaceOk (W : WL) (s0 : Int × Int) (S F : List (Int × Int)) : Prop where
  nd : F.Nodup
  sub : ∀ x ∈ F, x ∈ stepsOf W
  mem : s0 ∈ F
  out : ∀ x ∈ F, x ∉ S
  cl : ∀ x ∈ F, behindF W x ∈ F
theorem fcF_ok {W : WL} (w : Web W) {s0 : Int × Int} {S : List (Int × Int)} (sn : SnOk W S) : ∀ (k : Nat) (p : Int × Int) (L : List (Int × Int)), FcOk W s0 S L p → (stepsOf W).length < k + L.length → FaceOk W s0 S (fcF W s0 k p L)
  | 0, p, L, ok, hk => by have := ok.len; omega
  | k + 1, p, L, ok, hk => by
    unfold fcF
    split
    · rename_i e
      exact ⟨ok.nd, ok.sub, ok.mem, ok.out, ok.done e⟩
    · rename_i ne
      exact fcF_ok w sn k _ _ (ok.step w sn ne) (by simp only [List.length_append, List.length_singleton]; omega)
theorem faceOf_ok {W : WL} (w : Web W) {s0 : Int × Int} {S : List (Int × Int)} (sn : SnOk W S) (h0 : s0 ∈ stepsOf W) (hS : s0 ∉ S) : FaceOk W s0 S (faceOf W s0) := fcF_ok w sn _ _ _ (.start h0 hS) (by simp only [List.length_singleton]; omega)
theorem SnOk.nil {W : WL} : SnOk W [] := ⟨List.nodup_nil, by simp, by simp⟩
theorem SnOk.join {W : WL} {s0 : Int × Int} {S F : List (Int × Int)} (sn : SnOk W S) (f : FaceOk W s0 S F) : SnOk W (S ++ F) :=
  ⟨List.nodup_append.mpr ⟨sn.nd, f.nd, fun a ha b hb e => f.out b hb (e ▸ ha)⟩, fun x hx => (List.mem_append.mp hx).elim (sn.sub x) (f.sub x), fun x hx => (List.mem_append.mp hx).elim (fun h => List.mem_append_left _ (sn.cl x h)) fun h => List.mem_append_right _ (f.cl x h)⟩
/-- all faces -/
def fsF (W : WL) : List (Int × Int) → List (Int × Int) → List (List Int) → List (Int × Int) × List (List Int)
  | [], S, L => (S, L)
  | s :: r, S, L => if s ∈ S then fsF W r S L else fsF W r (S ++ faceOf W s) (L ++ [(faceOf W s).map (·.1)])
def facesOf (W : WL) : List (List Int) := (fsF W (stepsOf W) [] []).2
structure FsOk (W : WL) (S : List (Int × Int)) (L : List (List Int)) : Prop where
  sn : SnOk W S
  ne : ∀ r ∈ L, r ≠ []
  len : L.flatten.length = S.length
theorem FsOk.step {W : WL} (w : Web W) {S : List (Int × Int)} {L : List (List Int)} (ok : FsOk W S L) {s : Int × Int} (hs : s ∈ stepsOf W) (z : s ∉ S) : FsOk W (S ++ faceOf W s) (L ++ [(faceOf W s).map (·.1)]) := by
  have f := faceOf_ok w ok.sn hs z
  refine ⟨ok.sn.join f, fun r hr => ?_, ?_⟩
  · rcases List.mem_append.mp hr with q | q
    · exact ok.ne r q
    · rw [List.mem_singleton.mp q]
      intro e
      have := List.map_eq_nil_iff.mp e
      have hm := f.mem
      rw [this] at hm
      cases hm
  · have := ok.len
    simp only [List.flatten_append, List.flatten_cons, List.flatten_nil, List.append_nil, List.length_append, List.length_map]
    omega
theorem fsF_ok {W : WL} (w : Web W) : ∀ (r S : List (Int × Int)) (L : List (List Int)), (∀ s ∈ r, s ∈ stepsOf W) → FsOk W S L → FsOk W (fsF W r S L).1 (fsF W r S L).2 ∧ (∀ x ∈ S, x ∈ (fsF W r S L).1) ∧ ∀ s ∈ r, s ∈ (fsF W r S L).1
  | [], S, L, _, ok => ⟨ok, fun _ h => h, fun _ h => nomatch h⟩
  | s :: r, S, L, hr, ok => by
    unfold fsF
    have hr' : ∀ q ∈ r, q ∈ stepsOf W := fun q hq => hr q (List.mem_cons_of_mem _ hq)
    split
    · rename_i z
      obtain ⟨a, b, c⟩ := fsF_ok w r S L hr' ok
      exact ⟨a, b, fun q hq => by rcases List.mem_cons.mp hq with rfl | hq; exact b _ z; exact c q hq⟩
    · rename_i z
      have f := faceOf_ok w ok.sn (hr s List.mem_cons_self) z
      obtain ⟨a, b, c⟩ := fsF_ok w r _ _ hr' (ok.step w (hr s List.mem_cons_self) z)
      exact ⟨a, fun x hx => b x (List.mem_append_left _ hx), fun q hq => by rcases List.mem_cons.mp hq with rfl | hq; exact b _ (List.mem_append_right _ f.mem); exact c q hq⟩
theorem FsOk.nil {W : WL} : FsOk W [] [] := ⟨.nil, fun _ h => (nomatch h), rfl⟩
theorem faces_sum {W : WL} (w : Web W) : (facesOf W).flatten.length = (stepsOf W).length := by
  obtain ⟨ok, _, c⟩ := fsF_ok w (stepsOf W) [] [] (fun _ h => h) .nil
  have l1 := sub_len' ok.sn.nd ok.sn.sub
  have l2 := sub_len' (steps_nodup w) c
  have := ok.len
  unfold facesOf
  omega
theorem faces_ne {W : WL} (w : Web W) : ∀ r ∈ facesOf W, r ≠ [] := (fsF_ok w (stepsOf W) [] [] (fun _ h => h) .nil).1.ne
/-! ### the dict of the steps seen -/
def wFace : XT := xB (xOp opNe (xVar 4) (xTup (xCons (xVar 1) (xCons (xVar 2) xNil))))
def cFace (g : Fn) : XS := sSeq (sExpr (xAppend (xVar 3) (xVar 4))) (sAsg (xCall g (xCons (xVar 0) (xCons (xOp opIx (xVar 4) (xC (.int 0))) (xCons (xOp opIx (xVar 4) (xC (.int 1))) xNil)))) (gNm 4))
def bFace (g : Fn) : XS := sSeq (sAsg (xBox (xLst (xCons (xTup (xCons (xVar 1) (xCons (xVar 2) xNil))) xNil))) (gNm 3)) (sSeq (sAsg (xCall g (xCons (xVar 0) (xCons (xVar 1) (xCons (xVar 2) xNil)))) (gNm 4)) (sSeq (sWhile wFace (cFace g)) (sRet (xVar 3))))
theorem face_genR (g : Fn) (W : WL) (w : Web W) (hN : (stepsOf W).length ≤ 1000000) (D : MV) (hg : ∀ p ∈ stepsOf W, ∀ h, RdL h D (websV W) → g [D, .int p.1, .int p.2] h = some (pairV (behindF W p), h)) (s0 : Int × Int) (h0 : s0 ∈ stepsOf W) (h : MH) (R : RdL h D (websV W)) :
    toldF (runDef 5 (bFace g)) [D, .int s0.1, .int s0.2] h = some (.lst ((faceOf W s0).map pairV), h) := by
  have st1 : sAsg (xBox (xLst (xCons (xTup (xCons (xVar 1) (xCons (xVar 2) xNil))) xNil))) (gNm 3) [some D, some (.int s0.1), some (.int s0.2), none, none] h = some (.nx, [some D, some (.int s0.1), some (.int s0.2), some (.ref h.length), none], h ++ [.lst ([s0].map pairV)]) := rfl
  have st2 : sAsg (xCall g (xCons (xVar 0) (xCons (xVar 1) (xCons (xVar 2) xNil)))) (gNm 4) [some D, some (.int s0.1), some (.int s0.2), some (.ref h.length), none] (h ++ [.lst ([s0].map pairV)]) = some (.nx, [some D, some (.int s0.1), some (.int s0.2), some (.ref h.length), some (pairV (behindF W s0))], h ++ [.lst ([s0].map pairV)]) := set_at ((call_3 rfl rfl rfl).trans (hg s0 h0 _ (R.app _)))
  obtain ⟨s', h', ew, L, p, rfl, rfl, fe⟩ := sWhile_run (c := wFace) (b := cFace g)
    (fun s h1 => ∃ (L : List (Int × Int)) (p : Int × Int), s = [some D, some (.int s0.1), some (.int s0.2), some (.ref h.length), some (pairV p)] ∧ h1 = h ++ [.lst (L.map pairV)] ∧ FcOk W s0 [] L p ∧ 1 ≤ L.length ∧ fcF W s0 ((stepsOf W).length + 2 - L.length) p L = faceOf W s0)
    (fun s h1 => ∃ (L : List (Int × Int)) (p : Int × Int), s = [some D, some (.int s0.1), some (.int s0.2), some (.ref h.length), some (pairV p)] ∧ h1 = h ++ [.lst (L.map pairV)] ∧ L = faceOf W s0)
    (fun _ h1 => (stepsOf W).length + 2 - (match h1[h.length]? with | some (.lst xs) => xs.length | _ => 0))
    (by
      rintro s h1 ⟨L, p, rfl, rfl, ok, l1, fe⟩
      have ll := ok.len
      have ct : wFace [some D, some (.int s0.1), some (.int s0.2), some (.ref h.length), some (pairV p)] (h ++ [.lst (L.map pairV)]) = some (!decide (p = s0), h ++ [.lst (L.map pairV)]) := xB_at (op_at (y := pairV s0) rfl rfl (ne_pair p s0))
      by_cases q : p = s0
      · rw [decide_eq_true q] at ct
        refine .inl ⟨_, ct, L, p, rfl, rfl, ?_⟩
        rw [show (stepsOf W).length + 2 - L.length = ((stepsOf W).length + 1 - L.length) + 1 by omega, fcF, if_pos q] at fe
        exact fe
      · rw [decide_eq_false q] at ct
        have hp := ok.here w
        have ap := append_at (o := xVar 3) (e := xVar 4) (s := [some D, some (.int s0.1), some (.int s0.2), some (.ref h.length), some (pairV p)]) (v := pairV p) rfl (get_last (h := h) (c := .lst (L.map pairV))) rfl get_last (by rw [List.length_map]; unfold szLine; omega)
        rw [set_last, show L.map pairV ++ [pairV p] = (L ++ [p]).map pairV by simp] at ap
        have ca : xCall g (xCons (xVar 0) (xCons (xOp opIx (xVar 4) (xC (.int 0))) (xCons (xOp opIx (xVar 4) (xC (.int 1))) xNil))) [some D, some (.int s0.1), some (.int s0.2), some (.ref h.length), some (pairV p)] (h ++ [.lst ((L ++ [p]).map pairV)]) = some (pairV (behindF W p), h ++ [.lst ((L ++ [p]).map pairV)]) := (call_abc (x := D) (y := .int p.1) (z := .int p.2) rfl (op_at rfl rfl ((ix_t _ _ _).trans at_0)) (op_at rfl rfl ((ix_t _ _ _).trans at_1))).trans (hg p hp _ (R.app _))
        refine .inr ⟨_, .nx, _, _, ct, (seq_nx (expr_at ap)).trans (set_at ca), .inl rfl, ⟨L ++ [p], behindF W p, rfl, rfl, ok.step w .nil q, by simp, ?_⟩, ?_⟩
        · rw [← fe, show (stepsOf W).length + 2 - L.length = ((stepsOf W).length + 2 - (L ++ [p]).length) + 1 by simp; omega, fcF, if_neg q]
        · rw [get_last, get_last]
          simp only [List.length_map, List.length_append, List.length_singleton]
          omega)
    [some D, some (.int s0.1), some (.int s0.2), some (.ref h.length), some (pairV (behindF W s0))] (h ++ [.lst ([s0].map pairV)]) ⟨[s0], behindF W s0, rfl, rfl, .start h0 (by simp), by simp, rfl⟩
  have raw : runDef 5 (bFace g) [D, .int s0.1, .int s0.2] h = some (.ref h.length, h ++ [.lst (L.map pairV)]) := run_rt (b := bFace g) ((seq_nx st1).trans ((seq_nx st2).trans ((seq_nx ew).trans (ret_at rfl))))
  rw [← fe]
  exact toldF_lst raw get_last (by omega) (plain_pairs L) rfl same_plain
theorem behind_callR (W : WL) (w : Web W) (hr : ∀ u r, rowOf W u = some r → r.length ≤ 1000) (D : MV) : ∀ p ∈ stepsOf W, ∀ h, RdL h D (websV W) → g_behind [D, .int p.1, .int p.2] h = some (pairV (behindF W p), h) := fun p hp h R => by
  obtain ⟨u, v⟩ := p
  obtain ⟨r, er, hv⟩ := mem_steps.mp hp
  obtain ⟨r', er', hu⟩ := w.sym u v r er hv
  have := behind_rowR h W D R u v r' er' hu (hr v r' er')
  rw [show behindF W (u, v) = (v, nxt r' u) by simp [behindF, rowsAt, er']]
  exact this
def W1_face_from : XT := (xB (xOp opNe (xVar 4) (xTup (xCons (xVar 1) (xCons (xVar 2) xNil)))))
def B1_face_from : XS := (sSeq (sExpr (xAppend (xVar 3) (xVar 4)))
    (sAsg (xCall g_behind (xCons (xVar 0) (xCons (xOp opIx (xVar 4) (xC (.int 0))) (xCons (xOp opIx (xVar 4) (xC (.int 1))) xNil)))) (gNm 4)))
def b_face_from : XS := (sSeq (sAsg (xBox (xLst (xCons (xTup (xCons (xVar 1) (xCons (xVar 2) xNil))) xNil))) (gNm 3))
    (sSeq (sAsg (xCall g_behind (xCons (xVar 0) (xCons (xVar 1) (xCons (xVar 2) xNil)))) (gNm 4))
    (sSeq (sWhile W1_face_from B1_face_from)
    (sRet (xVar 3)))))
def g_face_from : Fn := runDef 5 b_face_from
theorem d_face_from {x0 x1 x2 : MV} {h : MH} {R : MV → MH → Prop} (w : Wp (b_face_from [some x0, some x1, some x2, none, none] h) fun f _ h1 => kR f fun v => R v h1) : We (g_face_from [x0, x1, x2] h) R := we_def w

theorem face_from_rd (W : WL) (w : Web W) (hr : ∀ u r, rowOf W u = some r → r.length ≤ 1000) (hN : (stepsOf W).length ≤ 1000000) (D : MV) (s0 : Int × Int) (h0 : s0 ∈ stepsOf W) (h : MH) (R : RdL h D (websV W)) : (toldF g_face_from) [D, .int s0.1, .int s0.2] h = some (.lst ((faceOf W s0).map pairV), h) :=
  face_genR g_behind W w hN D (behind_callR W w hr D) s0 h0 h R
theorem face_from_at (W : WL) (w : Web W) (hr : ∀ u r, rowOf W u = some r → r.length ≤ 1000) (hN : (stepsOf W).length ≤ 1000000) (s0 : Int × Int) (h0 : s0 ∈ stepsOf W) (h : MH) : (toldF g_face_from) [.dK (websV W), .int s0.1, .int s0.2] h = some (.lst ((faceOf W s0).map pairV), h) := face_from_rd W w hr hN _ s0 h0 h (.inl rfl)
def B1_steps_of : XS := (sExpr (xExtend (xVar 1) (xLc (iSeq (xArgs fSorted (xCons (xOp opIx (xVar 0) (xVar 2)) xNil))) (gNm 3) cYes (xTup (xCons (xVar 2) (xCons (xVar 3) xNil))) [3])))
def b_steps_of : XS := (sSeq (sAsg (xBox (xLst xNil)) (gNm 1))
    (sSeq (sFor (iSeq (xUn fKeysS (xVar 0))) (gNm 2) B1_steps_of)
    (sRet (xVar 1))))
def g_steps_of : Fn := runDef 4 b_steps_of
theorem d_steps_of {x0 : MV} {h : MH} {R : MV → MH → Prop} (w : Wp (b_steps_of [some x0, none, none, none] h) fun f _ h1 => kR f fun v => R v h1) : We (g_steps_of [x0] h) R := we_def w

theorem steps_of_at (W : WL) (kl : W.length ≤ 1000) (hr : ∀ u r, rowOf W u = some r → r.length ≤ 1000) (h : MH) : (toldF g_steps_of) [.dK (websV W)] h = some (.lst ((stepsOf W).map pairV), h) := by
  have lk := keys_len W
  have st1 : sAsg (xBox (xLst xNil)) (gNm 1) [some (.dK (websV W)), none, none, none] h = some (.nx, [some (.dK (websV W)), some (.ref h.length), none, none], h ++ [.lst ((stepsF W []).map pairV)]) := rfl
  have it : iSeq (xUn fKeysS (xVar 0)) [some (.dK (websV W)), some (.ref h.length), none, none] (h ++ [.lst ((stepsF W []).map pairV)]) = some (.vals ((sortI (keysOf' W)).map .int), h ++ [.lst ((stepsF W []).map pairV)]) := seq_lst (un_at rfl (keysS_webs _ W))
  obtain ⟨s', h', e, o2, o3, rfl, rfl⟩ := forGo_run (g := gNm 2) (b := B1_steps_of)
    (fun i s h1 => ∃ o2 o3, s = [some (.dK (websV W)), some (.ref h.length), o2, o3] ∧ h1 = h ++ [.lst ((stepsF W ((sortI (keysOf' W)).take i)).map pairV)])
    ((sortI (keysOf' W)).map .int) 0 [some (.dK (websV W)), some (.ref h.length), none, none] (h ++ [.lst ((stepsF W []).map pairV)]) ⟨none, none, rfl, rfl⟩ (by
    rintro i x s h1 ex ⟨o2, o3, rfl, rfl⟩
    rw [Nat.zero_add]
    rw [List.getElem?_map] at ex
    cases eu : (sortI (keysOf' W))[i]? with
    | none => rw [eu] at ex; cases ex
    | some u =>
      rw [eu] at ex; cases ex
      have hi := (List.getElem?_eq_some_iff.mp eu).1
      have sl := (sortI_perm (keysOf' W)).length_eq
      obtain ⟨r, er⟩ := mem_rowOf ((sortI_perm (keysOf' W)).mem_iff.mp (List.mem_of_getElem? eu))
      have hrl := hr u r er
      have tl := steps_len hr ((sortI (keysOf' W)).take i)
      rw [List.length_take] at tl
      generalize hS : stepsF W ((sortI (keysOf' W)).take i) = S at tl
      have sl2 := (sortI_perm r).length_eq
      have it2 : iSeq (xArgs fSorted (xCons (xOp opIx (xVar 0) (xVar 2)) xNil)) [some (.dK (websV W)), some (.ref h.length), some (.int u), o3] (h ++ [.lst (S.map pairV)]) = some (.vals ((sortI r).map .int), h ++ [.lst (S.map pairV)]) := seq_lst (args1_at (op_at rfl rfl (ix_websV er)) (by simp only [fSorted, seqOf, ints_of_map]))
      have lc := lcGo_all (g := gNm 3) (c := cYes) (e := xTup (xCons (xVar 2) (xCons (xVar 3) xNil))) (s := [some (.dK (websV W)), some (.ref h.length), some (.int u), none]) (h := h ++ [.lst (S.map pairV)]) MV.int (fun v => pairV (u, v)) (sortI r) [] (by rw [List.length_nil]; unfold szLine; omega) (fun v _ => ⟨[some (.dK (websV W)), some (.ref h.length), some (.int u), some (.int v)], rfl, rfl, rfl⟩)
      rw [List.nil_append, show (sortI r).map (fun v => pairV (u, v)) = ((sortI r).map fun v => (u, v)).map pairV by rw [List.map_map]; rfl] at lc
      have lc2 := lc_at (own := [3]) it2 lc
      have xt := extend_at (o := xVar 1) (s := [some (.dK (websV W)), some (.ref h.length), some (.int u), o3]) rfl (get_last (h := h) (c := .lst (S.map pairV))) lc2 get_last (by simp only [List.length_map]; unfold szLine; omega)
      rw [set_last, ← List.map_append] at xt
      refine ⟨_, _, .nx, _, _, rfl, expr_at xt, .inl rfl, some (.int u), o3, rfl, ?_⟩
      rw [take_snoc eu, ← hS]
      simp [stepsF, rowsAt, er])
  rw [Nat.zero_add, List.length_map, List.take_length] at e
  have raw : g_steps_of [.dK (websV W)] h = some (.ref h.length, h ++ [.lst ((stepsOf W).map pairV)]) := run_rt (b := b_steps_of) ((seq_nx st1).trans ((seq_nx ((for_at it).trans e)).trans (ret_at rfl)))
  exact toldF_lst raw get_last (by omega) (plain_pairs _) rfl same_plain
theorem steps_len2 {W : WL} (w : Web W) (kl : W.length ≤ 200) (hr : ∀ u r, rowOf W u = some r → r.length ≤ 1000) : (stepsOf W).length ≤ 1000000 := by
  have b := steps_len hr (sortI (keysOf' W))
  have c := (sortI_perm (keysOf' W)).length_eq
  have d := keys_len W
  unfold stepsOf
  rw [c, d] at b
  omega
def B2_faces : XS := (sPut (xVar 2) (xVar 6) (xC (.bl true)))
def B1_faces : XS := (sIf (xB (xOp opNotIn (xTup (xCons (xVar 3) (xCons (xVar 4) xNil))) (xVar 2))) (sSeq (sAsg (xCall (toldF Ew.g_face_from) (xCons (xVar 0) (xCons (xVar 3) (xCons (xVar 4) xNil)))) (gNm 5))
    (sSeq (sFor (iSeq (xVar 5)) (gNm 6) B2_faces)
    (sExpr (xAppend (xVar 1) (xArgs fTuple (xCons (xLc (iSeq (xVar 5)) (gNm 6) cYes (xOp opIx (xVar 6) (xC (.int 0))) [6]) xNil)))))) sNext)
def b_faces : XS := (sSeq (sAsg (xBox (xLst xNil)) (gNm 1))
    (sSeq (sAsg (xBox (xC (.dT []))) (gNm 2))
    (sSeq (sFor (iSeq (xCall (toldF Ew.g_steps_of) (xCons (xVar 0) xNil))) (gTp 2 (gsCons (gNm 3) (gsCons (gNm 4) gsNil))) B1_faces)
    (sRet (xVar 1)))))
def g_faces : Fn := runDef 7 b_faces
theorem d_faces {x0 : MV} {h : MH} {R : MV → MH → Prop} (w : Wp (b_faces [some x0, none, none, none, none, none, none] h) fun f _ h1 => kR f fun v => R v h1) : We (g_faces [x0] h) R := we_def w

theorem faces_at (W : WL) (w : Web W) (kl : W.length ≤ 200) (hr : ∀ u r, rowOf W u = some r → r.length ≤ 1000) (h : MH) : (toldF g_faces) [.dK (websV W)] h = some (.lst (tupsV (facesOf W)), h) := by
  have hN : (stepsOf W).length ≤ 200000 := by
    have a := steps_len hr (sortI (keysOf' W))
    have b := (sortI_perm (keysOf' W)).length_eq
    have c := keys_len W
    unfold stepsOf
    omega
  have st1 : sAsg (xBox (xLst xNil)) (gNm 1) [some (.dK (websV W)), none, none, none, none, none, none] h = some (.nx, [some (.dK (websV W)), some (.ref h.length), none, none, none, none, none], h ++ [.lst (tupsV [])]) := rfl
  have st2 : sAsg (xBox (xC (.dT []))) (gNm 2) [some (.dK (websV W)), some (.ref h.length), none, none, none, none, none] (h ++ [.lst (tupsV [])]) = some (.nx, [some (.dK (websV W)), some (.ref h.length), some (.ref (h.length + 1)), none, none, none, none], h ++ [.lst (tupsV []), .dT (seenT [])]) := by
    simp only [ews, List.length_append, List.append_assoc]
    rfl
  have it : iSeq (xCall (toldF g_steps_of) (xCons (xVar 0) xNil)) [some (.dK (websV W)), some (.ref h.length), some (.ref (h.length + 1)), none, none, none, none] (h ++ [.lst (tupsV []), .dT (seenT [])]) = some (.vals ((stepsOf W).map pairV), h ++ [.lst (tupsV []), .dT (seenT [])]) := seq_lst ((call_1 rfl).trans (steps_of_at W (by omega) hr _))
  obtain ⟨s', h', e3, S, L, o3, o4, o5, o6, rfl, rfl, ok, fe⟩ := forGo_run (g := gTp 2 (gsCons (gNm 3) (gsCons (gNm 4) gsNil))) (b := B1_faces)
    (fun i s h1 => ∃ (S : List (Int × Int)) (L : List (List Int)) (o3 o4 o5 o6 : Option MV), s = [some (.dK (websV W)), some (.ref h.length), some (.ref (h.length + 1)), o3, o4, o5, o6] ∧ h1 = h ++ [.lst (tupsV L), .dT (seenT S)] ∧ FsOk W S L ∧ fsF W ((stepsOf W).drop i) S L = fsF W (stepsOf W) [] [])
    ((stepsOf W).map pairV) 0 [some (.dK (websV W)), some (.ref h.length), some (.ref (h.length + 1)), none, none, none, none] (h ++ [.lst (tupsV []), .dT (seenT [])]) ⟨[], [], none, none, none, none, rfl, rfl, .nil, rfl⟩ (by
    rintro i x s h1 ex ⟨S, L, o3, o4, o5, o6, rfl, rfl, ok, fe⟩
    rw [Nat.zero_add] at fe ⊢
    rw [List.getElem?_map] at ex
    cases ep : (stepsOf W)[i]? with
    | none => rw [ep] at ex; cases ex
    | some p =>
      rw [ep] at ex; cases ex
      have hp := List.mem_of_getElem? ep
      have dr : (stepsOf W).drop i = p :: (stepsOf W).drop (i + 1) := by
        obtain ⟨hi, rfl⟩ := List.getElem?_eq_some_iff.mp ep
        exact List.drop_eq_getElem_cons hi
      rw [dr, fsF] at fe
      have ei : xOp opNotIn (xTup (xCons (xVar 3) (xCons (xVar 4) xNil))) (xVar 2) [some (.dK (websV W)), some (.ref h.length), some (.ref (h.length + 1)), some (.int p.1), some (.int p.2), o5, o6] (h ++ [.lst (tupsV L), .dT (seenT S)]) = some (.bl (!decide (p ∈ S)), h ++ [.lst (tupsV L), .dT (seenT S)]) := op_at (x := pairV p) rfl rfl (notin_seenT (get_e1 rfl) p)
      by_cases z : p ∈ S
      · rw [decide_eq_true z] at ei
        rw [if_pos z] at fe
        exact ⟨_, _, .nx, _, _, rfl, if_nx ei, .inl rfl, S, L, _, _, o5, o6, rfl, rfl, ok, fe⟩
      · rw [decide_eq_false z] at ei
        rw [if_neg z] at fe
        have f := faceOf_ok w ok.sn hp z
        have ok' := ok.step w hp z
        have ef := face_from_at W w hr (by omega) p hp (h ++ [.lst (tupsV L), .dT (seenT S)])
        have fl := sub_len' f.nd f.sub
        have sl := sub_len' ok.sn.nd ok.sn.sub
        generalize faceOf W p = F at f ok' ef fe fl
        have c1 : sAsg (xCall (toldF g_face_from) (xCons (xVar 0) (xCons (xVar 3) (xCons (xVar 4) xNil)))) (gNm 5) [some (.dK (websV W)), some (.ref h.length), some (.ref (h.length + 1)), some (.int p.1), some (.int p.2), o5, o6] (h ++ [.lst (tupsV L), .dT (seenT S)]) = some (.nx, [some (.dK (websV W)), some (.ref h.length), some (.ref (h.length + 1)), some (.int p.1), some (.int p.2), some (.lst (F.map pairV)), o6], h ++ [.lst (tupsV L), .dT (seenT S)]) := set_at ((call_3 rfl rfl rfl).trans ef)
        have it2 : iSeq (xVar 5) [some (.dK (websV W)), some (.ref h.length), some (.ref (h.length + 1)), some (.int p.1), some (.int p.2), some (.lst (F.map pairV)), o6] (h ++ [.lst (tupsV L), .dT (seenT S)]) = some (.vals (F.map pairV), h ++ [.lst (tupsV L), .dT (seenT S)]) := seq_lst rfl
        obtain ⟨s2, h2, e2, o', rfl, rfl⟩ := forGo_run (g := gNm 6) (b := B2_faces)
          (fun j s h1 => ∃ o6, s = [some (.dK (websV W)), some (.ref h.length), some (.ref (h.length + 1)), some (.int p.1), some (.int p.2), some (.lst (F.map pairV)), o6] ∧ h1 = h ++ [.lst (tupsV L), .dT (seenT (S ++ F.take j))])
          (F.map pairV) 0 [some (.dK (websV W)), some (.ref h.length), some (.ref (h.length + 1)), some (.int p.1), some (.int p.2), some (.lst (F.map pairV)), o6] (h ++ [.lst (tupsV L), .dT (seenT S)]) ⟨o6, rfl, by simp⟩ (by
          rintro j y s h1 ey ⟨o6, rfl, rfl⟩
          rw [Nat.zero_add]
          rw [List.getElem?_map] at ey
          cases eq : F[j]? with
          | none => rw [eq] at ey; cases ey
          | some q =>
            rw [eq] at ey; cases ey
            have hq := List.mem_of_getElem? eq
            have nq : q ∉ S ++ F.take j := fun hm => by
              rcases List.mem_append.mp hm with a | a
              · exact f.out q hq a
              · have nd := f.nd.sublist (List.take_sublist (j + 1) F)
                rw [take_snoc eq, List.nodup_append] at nd
                exact nd.2.2 q a q (by simp) rfl
            have pw := put_seenT (h := h ++ [.lst (tupsV L), .dT (seenT (S ++ F.take j))]) (m := h.length + 1) (get_e1 rfl) nq (by rw [List.length_append, List.length_take]; unfold szLine; omega)
            rw [set_e1 rfl, List.append_assoc, ← take_snoc eq] at pw
            exact ⟨_, _, .nx, _, _, rfl, put_at rfl rfl rfl pw, .inl rfl, some (pairV q), rfl, rfl⟩)
        rw [Nat.zero_add, List.length_map, List.take_length] at e2
        have lc := lcGo_all (g := gNm 6) (c := cYes) (e := xOp opIx (xVar 6) (xC (.int 0))) (s := [some (.dK (websV W)), some (.ref h.length), some (.ref (h.length + 1)), some (.int p.1), some (.int p.2), some (.lst (F.map pairV)), none]) (h := h ++ [.lst (tupsV L), .dT (seenT (S ++ F))]) pairV (fun q => .int q.1) F [] (by rw [List.length_nil]; unfold szLine; omega) (fun q _ => ⟨[some (.dK (websV W)), some (.ref h.length), some (.ref (h.length + 1)), some (.int p.1), some (.int p.2), some (.lst (F.map pairV)), some (pairV q)], rfl, rfl, op_at rfl rfl ((ix_t _ _ _).trans at_0)⟩)
        rw [List.nil_append, show F.map (fun q => MV.int q.1) = (F.map (·.1)).map .int by rw [List.map_map]; rfl] at lc
        have lc2 := args1_at (f := fTuple) (lc_at (own := [6]) (it := iSeq (xVar 5)) (s := [some (.dK (websV W)), some (.ref h.length), some (.ref (h.length + 1)), some (.int p.1), some (.int p.2), some (.lst (F.map pairV)), o']) (seq_lst rfl) lc) tup_lst
        have ln := len_flat L ok.ne
        have oln := ok.len
        have ap := append_at (o := xVar 1) (s := [some (.dK (websV W)), some (.ref h.length), some (.ref (h.length + 1)), some (.int p.1), some (.int p.2), some (.lst (F.map pairV)), o']) rfl (get_e0 rfl) lc2 (get_e0 rfl) (by unfold tupsV; rw [List.length_map]; unfold szLine; omega)
        rw [set_e0 rfl, show tupsV L ++ [.row ((F.map (·.1)).map .int)] = tupsV (L ++ [F.map (·.1)]) by simp [tupsV]] at ap
        exact ⟨_, _, .nx, _, _, rfl, (if_t (xB_at ei)).trans ((seq_nx c1).trans ((seq_nx ((for_at it2).trans e2)).trans (expr_at ap))), .inl rfl, S ++ F, L ++ [F.map (·.1)], _, _, _, o', rfl, rfl, ok', fe⟩)
  rw [Nat.zero_add, List.length_map, List.drop_length] at fe
  have eL : L = facesOf W := by unfold facesOf; rw [← fe]; rfl
  have raw : g_faces [.dK (websV W)] h = some (.ref h.length, h ++ [.lst (tupsV L), .dT (seenT S)]) := run_rt (b := b_faces) ((seq_nx st1).trans ((seq_nx st2).trans ((seq_nx ((for_at it).trans e3)).trans (ret_at rfl))))
  rw [← eL]
  exact toldF_lst raw (get_e0 rfl) (by omega) (plain_tups L) rfl same_plain
theorem nxt_rot {r : List Int} (nd : r.Nodup) {u : Int} (hu : u ∈ r) (k : Nat) : nxt (r.drop k ++ r.take k) u = nxt r u := by
  obtain ⟨l1, l2, e, n1, _⟩ := split_at hu
  subst e
  rw [nxt_app n1]
  by_cases q : k ≤ l1.length
  · rw [List.drop_append_of_le_length q, List.take_append_of_le_length q, List.append_assoc, List.cons_append, nxt_app (fun hm => n1 (List.mem_of_mem_drop hm))]
    rw [List.append_assoc l2, List.take_append_drop]
  · obtain ⟨j, rfl⟩ : ∃ j, k = l1.length + (j + 1) := ⟨k - l1.length - 1, by omega⟩
    have e1 : (l1 ++ u :: l2).drop (l1.length + (j + 1)) = l2.drop j := by
      rw [List.drop_append, List.drop_eq_nil_of_le (by omega), show l1.length + (j + 1) - l1.length = j + 1 by omega]
      rfl
    have e2 : (l1 ++ u :: l2).take (l1.length + (j + 1)) = l1 ++ u :: l2.take j := by
      rw [List.take_append, List.take_of_length_le (by omega), show l1.length + (j + 1) - l1.length = j + 1 by omega]
      rfl
    have n2 : u ∉ l2.drop j ++ l1 := fun hm => by
      rcases List.mem_append.mp hm with a | a
      · rw [List.nodup_append] at nd
        exact (List.nodup_cons.mp nd.2.1).1 (List.mem_of_mem_drop a)
      · exact n1 a
    rw [e1, e2, ← List.append_assoc, nxt_app n2, ← List.append_assoc (l2.take j), List.take_append_drop]
/-- the same web, its rows begun elsewhere -/
structure Rot (W V : WL) : Prop where
  ks : (keysOf' V).Perm (keysOf' W)
  row : ∀ u r, rowOf W u = some r → ∃ k, rowOf V u = some (r.drop k ++ r.take k)
theorem Rot.steps {W V : WL} (t : Rot W V) : stepsOf V = stepsOf W := by
  unfold stepsOf
  rw [sortI_eq t.ks]
  have : ∀ ks : List Int, (∀ u ∈ ks, u ∈ keysOf' W) → stepsF V ks = stepsF W ks := by
    intro ks
    induction ks with
    | nil => intro _; rfl
    | cons u ks ih =>
      intro h
      have ih' := ih fun v hv => h v (List.mem_cons_of_mem _ hv)
      unfold stepsF at ih' ⊢
      rw [List.flatMap_cons, List.flatMap_cons, ih']
      obtain ⟨r, er⟩ := mem_rowOf (h u List.mem_cons_self)
      obtain ⟨k, ek⟩ := t.row u r er
      rw [show sortI (rowsAt V u) = sortI (rowsAt W u) by unfold rowsAt; rw [er, ek]; exact sortI_eq (rot_perm k r)]
  exact this _ fun u hu => (sortI_perm _).mem_iff.mp hu
theorem Rot.behind {W V : WL} (w : Web W) (t : Rot W V) {p : Int × Int} (hp : p ∈ stepsOf W) : behindF V p = behindF W p := by
  obtain ⟨u, v⟩ := p
  obtain ⟨r, er, hv⟩ := mem_steps.mp hp
  obtain ⟨r', er', hu⟩ := w.sym u v r er hv
  obtain ⟨k, ek⟩ := t.row v r' er'
  simp only [behindF, rowsAt, er', ek, Option.getD_some]
  rw [nxt_rot (w.row v r' er').1 hu k]
theorem Rot.fc {W V : WL} (w : Web W) (t : Rot W V) (s0 : Int × Int) : ∀ (k : Nat) (p : Int × Int) (L : List (Int × Int)), p ∈ stepsOf W → fcF V s0 k p L = fcF W s0 k p L
  | 0, _, _, _ => rfl
  | k + 1, p, L, hp => by
    unfold fcF
    rw [t.behind w hp, t.fc w s0 k _ _ (behind_mem w hp)]
theorem Rot.face {W V : WL} (w : Web W) (t : Rot W V) {s0 : Int × Int} (h0 : s0 ∈ stepsOf W) : faceOf V s0 = faceOf W s0 := by
  unfold faceOf
  rw [t.steps, t.behind w h0, t.fc w s0 _ _ _ (behind_mem w h0)]
theorem Rot.fs {W V : WL} (w : Web W) (t : Rot W V) : ∀ (r S : List (Int × Int)) (L : List (List Int)), (∀ s ∈ r, s ∈ stepsOf W) → fsF V r S L = fsF W r S L
  | [], _, _, _ => rfl
  | s :: r, S, L, h => by
    unfold fsF
    have h' : ∀ q ∈ r, q ∈ stepsOf W := fun q hq => h q (List.mem_cons_of_mem _ hq)
    rw [t.face w (h s List.mem_cons_self), t.fs w r _ _ h', t.fs w r _ _ h']
theorem Rot.faces {W V : WL} (w : Web W) (t : Rot W V) : facesOf V = facesOf W := by
  unfold facesOf
  rw [t.steps, t.fs w _ _ _ fun _ h => h]
/-! ### the parts hold the points -/
theorem flF_new (W : WL) : ∀ (k a : Nat) (S P : List Int), ∃ N, flF W k a S P = (S ++ N, P ++ N)
  | 0, _, S, P => ⟨[], by simp [flF]⟩
  | k + 1, a, S, P => by
    unfold flF
    cases e : P[a]? with
    | none => exact ⟨[], by simp⟩
    | some u =>
      simp only [inF_new]
      obtain ⟨N, eN⟩ := flF_new W k (a + 1) (S ++ newF ((rowOf W u).getD []) S) (P ++ newF ((rowOf W u).getD []) S)
      exact ⟨newF ((rowOf W u).getD []) S ++ N, by rw [eN]; simp⟩
theorem ptF_perm (W : WL) : ∀ (ks S : List Int) (L : List (List Int)), L.flatten.Perm S → (ptF W ks S L).2.flatten.Perm (ptF W ks S L).1
  | [], S, L, h => h
  | p :: ks, S, L, h => by
    unfold ptF
    split
    · exact ptF_perm W ks S L h
    · obtain ⟨N, eN⟩ := flF_new W 902 0 (S ++ [p]) [p]
      refine ptF_perm W ks _ _ ?_
      rw [eN, List.flatten_append, List.append_assoc]
      refine List.Perm.append h ?_
      simpa using sortI_perm ([p] ++ N)
theorem parts_perm {W : WL} (w : Web W) : (partsOf W []).flatten.Perm (keysOf' W) := by
  obtain ⟨ok, _, c⟩ := ptF_ok w (n := 0) (sortI (keysOf' W)) [] [] (fun p hp => (sortI_perm _).mem_iff.mp hp) ⟨List.nodup_nil, by simp, by simp, rfl⟩
  refine (ptF_perm W (sortI (keysOf' W)) [] [] (List.Perm.refl _)).trans ((List.perm_ext_iff_of_nodup ok.nd w.nd).mpr fun x => ⟨ok.sk x, fun hx => c x ((sortI_perm _).mem_iff.mpr hx)⟩)
theorem part_ok {W : WL} (w : Web W) {r : List Int} (hr : r ∈ partsOf W []) : r.Nodup ∧ (∀ p ∈ r, p ∈ keysOf' W) ∧ r.length ≤ W.length := by
  have pm := parts_perm w
  have nd : r.Nodup := (pm.nodup_iff.mpr w.nd).sublist (List.sublist_flatten_of_mem hr)
  have sk : ∀ p ∈ r, p ∈ keysOf' W := fun p hp => pm.mem_iff.mp (List.mem_flatten.mpr ⟨r, hr, hp⟩)
  exact ⟨nd, sk, by rw [← keys_len]; exact sub_len nd sk⟩

def b_is_flat_part : XS := (sSeq (sIf (xB (xOp opEq (xArgs fLen (xCons (xVar 1) xNil)) (xC (.int 1)))) (sRet (xC (.bl true))) sNext)
    (sSeq (sAsg (xCall (toldF Ew.g_within) (xCons (xVar 0) (xCons (xVar 1) xNil))) (gNm 2))
    (sRet (xOp opEq (xOp opAdd (xOp opSub (xArgs fLen (xCons (xVar 1) xNil)) (xArgs fLen (xCons (xCall (toldF Ew.g_ties) (xCons (xVar 2) xNil)) xNil))) (xArgs fLen (xCons (xCall (toldF Ew.g_faces) (xCons (xVar 2) xNil)) xNil))) (xC (.int 2))))))
def g_is_flat_part : Fn := runDef 3 b_is_flat_part
theorem d_is_flat_part {x0 x1 : MV} {h : MH} {R : MV → MH → Prop} (w : Wp (b_is_flat_part [some x0, some x1, none] h) fun f _ h1 => kR f fun v => R v h1) : We (g_is_flat_part [x0, x1] h) R := we_def w

def flatB (W : WL) (r : List Int) : Bool := ((r.length : Int) == 1) || ((r.length : Int) - ((tiesOf (withF W r r)).length : Nat) + ((facesOf (withF W r r)).length : Nat) == 2)
theorem len_pairs (h : MH) (L : List (Int × Int)) : fLen h [.lst (L.map pairV)] = some (.int (L.length : Nat)) := by rw [len_lst, List.length_map]
theorem len_tups (h : MH) (L : List (List Int)) : fLen h [.lst (tupsV L)] = some (.int (L.length : Nat)) := by rw [len_lst]; unfold tupsV; rw [List.length_map]
theorem is_flat_part_rd (W : WL) (w : Web W) (kl : W.length ≤ 200) (hr : ∀ u r, rowOf W u = some r → r.length ≤ 1000) (r : List Int) (nd : r.Nodup) (hk : ∀ p ∈ r, p ∈ keysOf' W) (h : MH) (D : MV) (R : RdL h D (websV W)) :
    g_is_flat_part [D, .row (r.map .int)] h = some (.bl (flatB W r), h) := by
  have rl : r.length ≤ W.length := by rw [← keys_len]; exact sub_len nd hk
  have e0 : xArgs fLen (xCons (xVar 1) xNil) [some D, some (.row (r.map .int)), none] h = some (.int (r.length : Nat), h) := args1_at rfl (by rw [len_row, List.length_map])
  have c1 : xB (xOp opEq (xArgs fLen (xCons (xVar 1) xNil)) (xC (.int 1))) [some D, some (.row (r.map .int)), none] h = some ((r.length : Int) == 1, h) := xB_at (op_at e0 rfl rfl)
  unfold flatB
  cases q : ((r.length : Int) == 1) with
  | true =>
    rw [q] at c1
    exact run_rt (b := b_is_flat_part) (seq_rt ((if_t c1).trans (ret_at rfl)))
  | false =>
    rw [q] at c1
    have wa := withF_web w nd
    have la : (withF W r r).length = r.length := by rw [← keys_len, withF_keys]
    have lr := withF_len hr (ps := r)
    have ew := within_rd W r nd hk hr (by omega) (.row (r.map .int)) (fun s h e => seq_row (by unfold xVar; rw [e])) h D R
    have st2 : sAsg (xCall (toldF g_within) (xCons (xVar 0) (xCons (xVar 1) xNil))) (gNm 2) [some D, some (.row (r.map .int)), none] h = some (.nx, [some D, some (.row (r.map .int)), some (.dK (websV (withF W r r)))], h) := set_at ((call_2 rfl rfl).trans ew)
    generalize withF W r r = V at wa la lr st2
    have e1 : xArgs fLen (xCons (xVar 1) xNil) [some D, some (.row (r.map .int)), some (.dK (websV V))] h = some (.int (r.length : Nat), h) := args1_at rfl (by rw [len_row, List.length_map])
    have e2 : xArgs fLen (xCons (xCall (toldF g_ties) (xCons (xVar 2) xNil)) xNil) [some D, some (.row (r.map .int)), some (.dK (websV V))] h = some (.int ((tiesOf V).length : Nat), h) := args1_at ((call_1 rfl).trans (ties_at V (by omega) lr h)) (len_pairs _ _)
    have e3 : xArgs fLen (xCons (xCall (toldF g_faces) (xCons (xVar 2) xNil)) xNil) [some D, some (.row (r.map .int)), some (.dK (websV V))] h = some (.int ((facesOf V).length : Nat), h) := args1_at ((call_1 rfl).trans (faces_at V wa (by omega) lr h)) (len_tups _ _)
    rw [Bool.false_or]
    exact run_rt (b := b_is_flat_part) ((seq_nx (if_f c1)).trans ((seq_nx st2).trans (ret_at (op_at (op_at (op_at e1 e2 rfl) e3 rfl) rfl rfl))))
def B1_crooked : XS := (sIf (xNotT (xB (xCall g_is_flat_part (xCons (xVar 0) (xCons (xVar 1) xNil))))) (sRet (xVar 1)) sNext)
def b_crooked : XS := (sSeq (sFor (iSeq (xCall (toldF Ew.g_parts) (xCons (xVar 0) xNil))) (gNm 1) B1_crooked)
    (sRet (xC .non)))
def g_crooked : Fn := runDef 2 b_crooked
theorem d_crooked {x0 : MV} {h : MH} {R : MV → MH → Prop} (w : Wp (b_crooked [some x0, none] h) fun f _ h1 => kR f fun v => R v h1) : We (g_crooked [x0] h) R := we_def w

def crookF (W : WL) : List (List Int) → MV
  | [] => .non
  | r :: L => if flatB W r then crookF W L else .row (r.map .int)
theorem crook_go (W : WL) (w : Web W) (kl : W.length ≤ 200) (hr : ∀ u r, rowOf W u = some r → r.length ≤ 1000) (h : MH) (D : MV) (R : RdL h D (websV W)) : ∀ (L : List (List Int)), (∀ r ∈ L, r.Nodup ∧ ∀ p ∈ r, p ∈ keysOf' W) → ∀ o1, ∃ o1',
    forGo (gNm 1) B1_crooked (tupsV L) [some D, o1] h = some (match crookF W L with | .non => Fl.nx | v => Fl.rt v, [some D, o1'], h)
  | [], _, o1 => ⟨o1, rfl⟩
  | r :: L, hL, o1 => by
    obtain ⟨nd, hk⟩ := hL r List.mem_cons_self
    have e0 := is_flat_part_rd W w kl hr r nd hk h D R
    have c1 : xNotT (xB (xCall g_is_flat_part (xCons (xVar 0) (xCons (xVar 1) xNil)))) [some D, some (.row (r.map .int))] h = some (!flatB W r, h) := by
      have c0 : xB (xCall g_is_flat_part (xCons (xVar 0) (xCons (xVar 1) xNil))) [some D, some (.row (r.map .int))] h = some (flatB W r, h) := xB_at ((call_2 rfl rfl).trans e0)
      simp only [xNotT, c0]
    have g1 : gNm 1 (.row (r.map .int)) [some D, o1] h = some ([some D, some (.row (r.map .int))], h) := rfl
    show ∃ o1', forGo (gNm 1) B1_crooked (.row (r.map .int) :: tupsV L) [some D, o1] h = _
    unfold crookF
    cases q : flatB W r with
    | true =>
      rw [q] at c1
      obtain ⟨o1', ih⟩ := crook_go W w kl hr h D R L (fun r' hr' => hL r' (List.mem_cons_of_mem _ hr')) (some (.row (r.map .int)))
      refine ⟨o1', ?_⟩
      have e1 : B1_crooked [some D, some (.row (r.map .int))] h = some (.nx, [some D, some (.row (r.map .int))], h) := if_f c1
      simp only [forGo, g1, e1, if_true]
      exact ih
    | false =>
      rw [q] at c1
      have e1 : B1_crooked [some D, some (.row (r.map .int))] h = some (.rt (.row (r.map .int)), [some D, some (.row (r.map .int))], h) := (if_t c1).trans rfl
      refine ⟨_, by simp only [forGo, g1, e1]; rfl⟩
theorem crooked_rd (W : WL) (w : Web W) (kl : W.length ≤ 200) (hr : ∀ u r, rowOf W u = some r → r.length ≤ 1000) (h : MH) (D : MV) (R : RdL h D (websV W)) : g_crooked [D] h = some (crookF W (partsOf W []), h) := by
  obtain ⟨o1', eg⟩ := crook_go W w kl hr h D R (partsOf W []) (fun r hr' => ⟨(part_ok w hr').1, (part_ok w hr').2.1⟩) none
  have it : iSeq (xCall (toldF g_parts) (xCons (xVar 0) xNil)) [some D, none] h = some (.vals (tupsV (partsOf W [])), h) := seq_lst ((call_1 rfl).trans (parts_rd W w (by omega) h D R))
  have ef := (for_at it).trans eg
  have alt : crookF W (partsOf W []) = .non ∨ ∃ xs, crookF W (partsOf W []) = .row xs := by
    generalize partsOf W [] = L
    induction L with
    | nil => exact .inl rfl
    | cons r L ih =>
      unfold crookF
      split
      · exact ih
      · exact .inr ⟨_, rfl⟩
  rcases alt with e | ⟨xs, e⟩ <;> rw [e] at ef ⊢
  · exact run_rt (b := b_crooked) ((seq_nx ef).trans (ret_at rfl))
  · exact run_rt (b := b_crooked) (seq_rt ef)
def b_is_flat : XS := (sRet (xOp opIsNon (xCall g_crooked (xCons (xVar 0) xNil)) (xC .non)))
def g_is_flat : Fn := runDef 1 b_is_flat
theorem d_is_flat {x0 : MV} {h : MH} {R : MV → MH → Prop} (w : Wp (b_is_flat [some x0] h) fun f _ h1 => kR f fun v => R v h1) : We (g_is_flat [x0] h) R := we_def w

theorem crook_all (W : WL) : ∀ L : List (List Int), (match crookF W L with | .non => true | _ => false) = L.all (flatB W)
  | [] => rfl
  | r :: L => by
    have ih := crook_all W L
    unfold crookF
    rw [List.all_cons]
    cases flatB W r with
    | true => simp only [if_true, Bool.true_and]; exact ih
    | false => simp
theorem is_flat_rd (W : WL) (w : Web W) (kl : W.length ≤ 200) (hr : ∀ u r, rowOf W u = some r → r.length ≤ 1000) (h : MH) (D : MV) (R : RdL h D (websV W)) : g_is_flat [D] h = some (.bl ((partsOf W []).all (flatB W)), h) := by
  have e := crooked_rd W w kl hr h D R
  exact run_rt (b := b_is_flat) (ret_at (op_at ((call_1 rfl).trans e) rfl (by simp only [opIsNon]; rw [← crook_all]; try (cases crookF W (partsOf W []) <;> rfl))))
theorem is_flat_at (W : WL) (w : Web W) (kl : W.length ≤ 200) (hr : ∀ u r, rowOf W u = some r → r.length ≤ 1000) (h : MH) : g_is_flat [.dK (websV W)] h = some (.bl ((partsOf W []).all (flatB W)), h) := is_flat_rd W w kl hr h _ (.inl rfl)
/-- each tie is two steps -/
theorem steps_twice {W : WL} (w : Web W) : (stepsOf W).length = 2 * (tiesOf W).length := by
  have e := List.length_eq_countP_add_countP (fun p : Int × Int => decide (p.1 < p.2)) (l := stepsOf W)
  rw [List.countP_eq_length_filter, List.countP_eq_length_filter] at e
  have pm : (((stepsOf W).filter fun p : Int × Int => decide (p.1 < p.2)).map fun p => (p.2, p.1)).Perm ((stepsOf W).filter fun p : Int × Int => decide ¬decide (p.1 < p.2) = true) := by
    refine (List.perm_ext_iff_of_nodup (map_nodup _ ((steps_nodup w).filter _) fun a _ b _ h => by cases a; cases b; cases h; rfl) ((steps_nodup w).filter _)).mpr fun x => ?_
    obtain ⟨u, v⟩ := x
    have sw : ∀ a b, (a, b) ∈ stepsOf W → (b, a) ∈ stepsOf W := fun a b h => by
      obtain ⟨r, er, hb⟩ := mem_steps.mp h
      obtain ⟨r', er', ha⟩ := w.sym a b r er hb
      exact mem_steps.mpr ⟨r', er', ha⟩
    have ne : ∀ a b, (a, b) ∈ stepsOf W → a ≠ b := fun a b h z => by
      obtain ⟨r, er, hb⟩ := mem_steps.mp h
      exact (w.row a r er).2 (z ▸ hb)
    rw [List.mem_map, List.mem_filter]
    constructor
    · rintro ⟨⟨a, b⟩, hab, e⟩
      cases e
      obtain ⟨h1, h2⟩ := List.mem_filter.mp hab
      have h3 := of_decide_eq_true h2
      simp only at h3
      refine ⟨sw _ _ h1, ?_⟩
      simp only [decide_eq_true_eq]
      omega
    · rintro ⟨h1, h2⟩
      have h3 := ne u v h1
      simp only [decide_eq_true_eq] at h2
      exact ⟨(v, u), List.mem_filter.mpr ⟨sw _ _ h1, by simp only [decide_eq_true_eq]; omega⟩, rfl⟩
  have := pm.length_eq
  rw [List.length_map] at this
  unfold tiesOf
  omega

/-! cycles of a map over a list, and what becomes of them when two elements are cut out -/
section
variable {α : Type} [DecidableEq α] {φ φ' : α → α}
/-- each element's image is the next, the last one's is z -/
def Pth (φ : α → α) : List α → α → Prop
  | [], _ => True
  | x :: t, z => φ x = t.headD z ∧ Pth φ t z
theorem headD_app (A B : List α) (z : α) : (A ++ B).headD z = A.headD (B.headD z) := by cases A <;> rfl
theorem pth_append : ∀ (A B : List α) (z : α), Pth φ (A ++ B) z ↔ Pth φ A (B.headD z) ∧ Pth φ B z
  | [], B, z => by simp [Pth]
  | x :: A, B, z => by
    rw [List.cons_append, Pth, Pth, pth_append A B z, headD_app, and_assoc]
def Cyc (φ : α → α) (c : List α) : Prop := ∃ x t, c = x :: t ∧ Pth φ c x
theorem Cyc.ne {c : List α} (h : Cyc φ c) : c ≠ [] := by obtain ⟨x, t, rfl, _⟩ := h; exact List.cons_ne_nil _ _
/-- a cycle may begin anywhere -/
theorem Cyc.turn {c : List α} (h : Cyc φ c) {e : α} (he : e ∈ c) : ∃ t, Pth φ (e :: t) e ∧ c.Perm (e :: t) := by
  obtain ⟨x, t, ec, p⟩ := h
  obtain ⟨A, B, rfl⟩ := List.append_of_mem he
  have hx : x = A.headD e := by cases A <;> cases ec <;> rfl
  rw [pth_append] at p
  refine ⟨B ++ A, ?_, ?_⟩
  · rw [← List.cons_append, pth_append, ← hx]
    exact ⟨p.2, p.1⟩
  · exact List.perm_append_comm.trans (.refl _)
structure Cov (φ : α → α) (D : List α) (L : List (List α)) : Prop where
  cyc : ∀ c ∈ L, Cyc φ c
  perm : L.flatten.Perm D
theorem pth_same {x : α} : ∀ {t s : List α}, Pth φ t x → Pth φ s x → t.headD x = s.headD x → x ∉ t → x ∉ s → t = s
  | [], [], _, _, _, _, _ => rfl
  | [], y :: s, _, _, e, _, h => absurd (show x ∈ y :: s by rw [show x = y from e]; exact List.mem_cons_self) h
  | y :: t, [], _, _, e, h, _ => absurd (show x ∈ y :: t by rw [show x = y from e.symm]; exact List.mem_cons_self) h
  | y :: t, z :: s, p, q, e, h, k => by
    have : y = z := e
    subst this
    rw [pth_same p.2 q.2 (p.1.symm.trans q.1) (fun m => h (.tail _ m)) (fun m => k (.tail _ m))]
theorem flatten_perm {L L' : List (List α)} (h : L.Perm L') : L.flatten.Perm L'.flatten := by
  induction h with
  | nil => exact .refl _
  | cons x _ ih => exact List.Perm.append_left _ ih
  | swap x y l =>
    simp only [List.flatten_cons, ← List.append_assoc]
    exact List.Perm.append_right _ List.perm_append_comm
  | trans _ _ a b => exact a.trans b
theorem mem_flat {L : List (List α)} {x : α} (h : x ∈ L.flatten) : ∃ c L0, x ∈ c ∧ c ∈ L ∧ L.Perm (c :: L0) := by
  obtain ⟨c, hc, hx⟩ := List.mem_flatten.mp h
  exact ⟨c, L.erase c, hx, hc, List.perm_cons_erase hc⟩
/-- all covers are alike in number -/
theorem cov_len : ∀ (L : List (List α)) {D : List α} {L' : List (List α)}, D.Nodup → Cov φ D L → Cov φ D L' → L.length = L'.length
  | [], D, L', nd, h, h' => by
    have e : D = [] := List.Perm.nil_eq h.perm |>.symm
    subst e
    cases L' with
    | nil => rfl
    | cons c L' =>
      have := List.Perm.eq_nil h'.perm
      rw [List.flatten_cons, List.append_eq_nil_iff] at this
      exact absurd this.1 (h'.cyc c List.mem_cons_self).ne
  | c :: L, D, L', nd, h, h' => by
    obtain ⟨x, t, ec, px⟩ := h.cyc c List.mem_cons_self
    have nd1 : (c ++ L.flatten).Nodup := h.perm.nodup_iff.mpr nd
    have hx : x ∈ L'.flatten := h'.perm.mem_iff.mpr (h.perm.mem_iff.mp (by rw [ec]; simp))
    obtain ⟨c', L0, xc, hc', pm⟩ := mem_flat hx
    have pf := flatten_perm pm
    have nd2 : (c' ++ L0.flatten).Nodup := (pf.symm.trans h'.perm).nodup_iff.mpr nd
    obtain ⟨s, ps, pc⟩ := (h'.cyc c' hc').turn xc
    have n1 : (x :: t).Nodup := by rw [← ec]; exact (List.nodup_append.mp nd1).1
    have n2 : (x :: s).Nodup := pc.nodup_iff.mp (List.nodup_append.mp nd2).1
    rw [ec] at px
    have ts : t = s := pth_same px.2 ps.2 (px.1.symm.trans ps.1) (List.nodup_cons.mp n1).1 (List.nodup_cons.mp n2).1
    have pcc : c.Perm c' := by rw [ec, ts]; exact pc.symm
    have pr : L.flatten.Perm L0.flatten := by
      have a : (c ++ L.flatten).Perm (c ++ L0.flatten) := h.perm.trans (h'.perm.symm.trans (pf.trans (List.Perm.append_right _ pcc.symm)))
      exact (List.perm_append_left_iff c).mp a
    have := cov_len L (D := L.flatten) (L' := L0) (List.nodup_append.mp nd1).2.1 ⟨fun k hk => h.cyc k (.tail _ hk), .refl _⟩ ⟨fun k hk => h'.cyc k (pm.mem_iff.mpr (.tail _ hk)), pr.symm⟩
    rw [pm.length_eq, List.length_cons, List.length_cons, this]
/-! ### two elements are cut out -/
theorem pth_new {e b : α} {D : List α} (hφ : ∀ x, x ∈ D → x ≠ e → x ≠ b → (φ x = e → φ' x = φ b) ∧ (φ x = b → φ' x = φ e) ∧ (φ x ≠ e → φ x ≠ b → φ' x = φ x)) {z z' : α} (h1 : z = e → z' = φ b) (h2 : z = b → z' = φ e) (h3 : z ≠ e → z ≠ b → z' = z) : ∀ A : List α, (∀ x ∈ A, x ∈ D) → e ∉ A → b ∉ A → Pth φ A z → Pth φ' A z'
  | [], _, _, _, _ => trivial
  | x :: t, hD, he, hb, p => by
    have xe : x ≠ e := fun q => he (q ▸ List.mem_cons_self)
    have xb : x ≠ b := fun q => hb (q ▸ List.mem_cons_self)
    have te : e ∉ t := fun q => he (.tail _ q)
    have tb : b ∉ t := fun q => hb (.tail _ q)
    obtain ⟨a1, a2, a3⟩ := hφ x (hD x List.mem_cons_self) xe xb
    refine ⟨?_, pth_new hφ h1 h2 h3 t (fun y hy => hD y (.tail _ hy)) te tb p.2⟩
    cases t with
    | nil =>
      have p1 : φ x = z := p.1
      show φ' x = z'
      by_cases q1 : z = e
      · rw [h1 q1]; exact a1 (p1.trans q1)
      · by_cases q2 : z = b
        · rw [h2 q2]; exact a2 (p1.trans q2)
        · rw [h3 q1 q2, ← p1]; exact a3 (p1 ▸ q1) (p1 ▸ q2)
    | cons y t =>
      have p1 : φ x = y := p.1
      show φ' x = y
      rw [← p1]
      exact a3 (fun q => te (by rw [← q, p1]; exact List.mem_cons_self)) (fun q => tb (by rw [← q, p1]; exact List.mem_cons_self))
def b01 (b : Bool) : Nat := if b = true then 1 else 0
theorem cov_cut {D D' : List α} {L : List (List α)} {e b : α} (nd : D.Nodup) (h : Cov φ D L) (pD : D.Perm (e :: b :: D')) (eb : e ≠ b) (fe : φ e ≠ e) (fb : φ b ≠ b)
    (hφ : ∀ x, x ∈ D → x ≠ e → x ≠ b → (φ x = e → φ' x = φ b) ∧ (φ x = b → φ' x = φ e) ∧ (φ x ≠ e → φ x ≠ b → φ' x = φ x)) :
    (∃ L' T, Cov φ' D' L' ∧ L'.length + 1 = L.length ∧ Pth φ (e :: T) e ∧ (∀ x ∈ T, x ∈ D') ∧ φ e ≠ b ∧ φ b ≠ e) ∨
    (∃ L', Cov φ' D' L' ∧ L'.length + b01 (φ e = b) + b01 (φ b = e) = L.length + 1) := by
  have he : e ∈ L.flatten := h.perm.mem_iff.mpr (pD.mem_iff.mpr List.mem_cons_self)
  have hb : b ∈ L.flatten := h.perm.mem_iff.mpr (pD.mem_iff.mpr (.tail _ List.mem_cons_self))
  obtain ⟨c, L0, ce, hc, pm⟩ := mem_flat he
  obtain ⟨T, pT, pc⟩ := (h.cyc c hc).turn ce
  have pf : (e :: T ++ L0.flatten).Perm (e :: b :: D') := (List.Perm.append_right _ pc).symm.trans ((flatten_perm pm).symm.trans (h.perm.trans pD))
  have p1 : (T ++ L0.flatten).Perm (b :: D') := (List.perm_cons e).mp pf
  have n0 : (e :: b :: D').Nodup := pD.nodup_iff.mp nd
  have n1 : (T ++ L0.flatten).Nodup := p1.nodup_iff.mpr (List.nodup_cons.mp n0).2
  have eT : e ∉ T ++ L0.flatten := fun q => (List.nodup_cons.mp n0).1 (p1.mem_iff.mp q)
  have cyc0 : ∀ k ∈ L0, Cyc φ k := fun k hk => h.cyc k (pm.mem_iff.mpr (.tail _ hk))
  have inD : ∀ x, x ∈ T ++ L0.flatten → x ∈ D := fun x hx => pD.mem_iff.mpr (.tail _ (p1.mem_iff.mp hx))
  have keep : ∀ k : List α, (∀ x ∈ k, x ∈ D) → Cyc φ k → e ∉ k → b ∉ k → Cyc φ' k := fun k kD ⟨x, t, ek, p⟩ ke kb => ⟨x, t, ek, pth_new hφ (fun q => absurd (by rw [ek, q]; exact List.mem_cons_self) ke) (fun q => absurd (by rw [ek, q]; exact List.mem_cons_self) kb) (fun _ _ => rfl) k kD ke kb p⟩
  have lL : L.length = L0.length + 1 := by rw [pm.length_eq]; rfl
  by_cases hbT : b ∈ T
  · -- the same cycle: it falls in two
    right
    obtain ⟨A, B, rfl⟩ := List.append_of_mem hbT
    have p1' : (A ++ b :: (B ++ L0.flatten)).Perm (b :: D') := by simpa using p1
    have p2 : (A ++ B ++ L0.flatten).Perm D' := by
      have := (List.perm_cons b).mp (List.perm_middle.symm.trans p1')
      rwa [← List.append_assoc] at this
    have n2 : (A ++ b :: (B ++ L0.flatten)).Nodup := by simpa using n1
    have n3 := List.nodup_append.mp n2
    have n4 := List.nodup_cons.mp n3.2.1
    have bA : b ∉ A := fun q => n3.2.2 b q b List.mem_cons_self rfl
    have bB : b ∉ B := fun q => n4.1 (List.mem_append_left _ q)
    have bL : b ∉ L0.flatten := fun q => n4.1 (List.mem_append_right _ q)
    have eA : e ∉ A := fun q => eT (by simp [q])
    have eB : e ∉ B := fun q => eT (by simp [q])
    have eL : e ∉ L0.flatten := fun q => eT (by simp [q])
    have q1 := pT.1
    have q2 := (pth_append (φ := φ) A (b :: B) e).mp pT.2
    have hA : φ e = A.headD b := by rw [q1, headD_app]; rfl
    have hB : φ b = B.headD e := q2.2.1
    have cA : A ≠ [] → Cyc φ' A := fun ne => by
      cases A with
      | nil => exact absurd rfl ne
      | cons y A =>
        refine ⟨y, A, rfl, ?_⟩
        have := pth_new hφ (z := b) (z' := φ e) (fun q => absurd q.symm eb) (fun _ => rfl) (fun _ q => absurd rfl q) (y :: A) (fun x hx => inD x (List.mem_append_left _ (List.mem_append_left _ hx))) eA bA q2.1
        rw [hA] at this
        exact this
    have cB : B ≠ [] → Cyc φ' B := fun ne => by
      cases B with
      | nil => exact absurd rfl ne
      | cons y B =>
        refine ⟨y, B, rfl, ?_⟩
        have := pth_new hφ (z := e) (z' := φ b) (fun _ => rfl) (fun q => absurd q eb) (fun q => absurd rfl q) (y :: B) (fun x hx => inD x (List.mem_append_left _ (List.mem_append_right _ (.tail _ hx)))) eB bB q2.2.2
        rw [hB] at this
        exact this
    have iA : b01 (decide (φ e = b)) = if A = [] then 1 else 0 := by
      cases A with
      | nil => simp [b01, hA]
      | cons y A => rw [if_neg (List.cons_ne_nil _ _)]; simp only [b01, hA, List.headD_cons]; rw [if_neg]; simp; exact fun q => bA (q ▸ List.mem_cons_self)
    have iB : b01 (decide (φ b = e)) = if B = [] then 1 else 0 := by
      cases B with
      | nil => simp [b01, hB]
      | cons y B => rw [if_neg (List.cons_ne_nil _ _)]; simp only [b01, hB, List.headD_cons]; rw [if_neg]; simp; exact fun q => eB (q ▸ List.mem_cons_self)
    have k0 : ∀ k ∈ L0, Cyc φ' k := fun k hk => keep k (fun x hx => inD x (List.mem_append_right _ (List.mem_flatten.mpr ⟨k, hk, hx⟩))) (cyc0 k hk) (fun q => eL (List.mem_flatten.mpr ⟨k, hk, q⟩)) (fun q => bL (List.mem_flatten.mpr ⟨k, hk, q⟩))
    refine ⟨(if A = [] then [] else [A]) ++ ((if B = [] then [] else [B]) ++ L0), ⟨fun k hk => ?_, ?_⟩, ?_⟩
    · rcases List.mem_append.mp hk with hk | hk
      · split at hk
        · cases hk
        · rename_i ne; rw [List.mem_singleton.mp hk]; exact cA ne
      · rcases List.mem_append.mp hk with hk | hk
        · split at hk
          · cases hk
          · rename_i ne; rw [List.mem_singleton.mp hk]; exact cB ne
        · exact k0 k hk
    · have : ((if A = [] then [] else [A]) ++ ((if B = [] then [] else [B]) ++ L0)).flatten = A ++ B ++ L0.flatten := by
        by_cases a0 : A = [] <;> by_cases b0 : B = [] <;> simp [a0, b0]
      rw [this]; exact p2
    · rw [iA, iB, lL]
      by_cases a0 : A = [] <;> by_cases b0 : B = [] <;> simp [a0, b0] <;> omega
  · -- two cycles: they join
    left
    have hb0 : b ∈ L0.flatten := by
      rcases List.mem_append.mp (p1.mem_iff.mpr List.mem_cons_self) with q | q
      · exact absurd q hbT
      · exact q
    obtain ⟨c2, L1, ce2, hc2, pm2⟩ := mem_flat hb0
    obtain ⟨S, pS, pc2⟩ := (cyc0 c2 hc2).turn ce2
    have p3 : (T ++ (b :: S ++ L1.flatten)).Perm (b :: D') := (List.Perm.append_left _ ((List.Perm.append_right _ pc2.symm).trans (flatten_perm pm2).symm)).trans p1
    have p3' : (T ++ b :: (S ++ L1.flatten)).Perm (b :: D') := by simpa using p3
    have p4 : (T ++ S ++ L1.flatten).Perm D' := by
      have := (List.perm_cons b).mp (List.perm_middle.symm.trans p3')
      rwa [← List.append_assoc] at this
    have n2 : (T ++ b :: (S ++ L1.flatten)).Nodup := by simpa using p3.nodup_iff.mpr (List.nodup_cons.mp n0).2
    have n3 := List.nodup_append.mp n2
    have n4 := List.nodup_cons.mp n3.2.1
    have bS : b ∉ S := fun q => n4.1 (List.mem_append_left _ q)
    have bL : b ∉ L1.flatten := fun q => n4.1 (List.mem_append_right _ q)
    have e3 : ∀ q : α, q ∈ T ++ S ++ L1.flatten → q ≠ e := fun q hq z => (List.nodup_cons.mp n0).1 (.tail _ (p4.mem_iff.mp (z ▸ hq)))
    have eT2 : e ∉ T := fun q => e3 e (by simp [q]) rfl
    have eS : e ∉ S := fun q => e3 e (by simp [q]) rfl
    have eL : e ∉ L1.flatten := fun q => e3 e (List.mem_append_right _ q) rfl
    have hT : T ≠ [] := fun q => fe (by have := pT.1; rw [q] at this; exact this)
    have hS : S ≠ [] := fun q => fb (by have := pS.1; rw [q] at this; exact this)
    have g1 : φ e = T.headD e := pT.1
    have g2 : φ b = S.headD b := pS.1
    refine ⟨(T ++ S) :: L1, T, ⟨fun k hk => ?_, ?_⟩, ?_, pT, fun x hx => p4.mem_iff.mp (by simp [hx]), fun q => ?_, fun q => ?_⟩
    · rcases List.mem_cons.mp hk with rfl | hk
      · cases T with
        | nil => exact absurd rfl hT
        | cons t T =>
          cases S with
          | nil => exact absurd rfl hS
          | cons s S =>
            refine ⟨t, T ++ s :: S, rfl, ?_⟩
            rw [pth_append]
            have r1 := pth_new hφ (z := e) (z' := φ b) (fun _ => rfl) (fun q => absurd q eb) (fun q => absurd rfl q) (t :: T) (fun x hx => inD x (List.mem_append_left _ hx)) eT2 hbT pT.2
            have r2 := pth_new hφ (z := b) (z' := φ e) (fun q => absurd q.symm eb) (fun _ => rfl) (fun _ q => absurd rfl q) (s :: S) (fun x hx => inD x (List.mem_append_right _ (List.mem_flatten.mpr ⟨c2, hc2, pc2.mem_iff.mpr (.tail _ hx)⟩))) eS bS pS.2
            rw [g2] at r1
            rw [g1] at r2
            exact ⟨r1, r2⟩
      · have hk0 := cyc0 k (pm2.mem_iff.mpr (.tail _ hk))
        exact keep k (fun x hx => inD x (List.mem_append_right _ (List.mem_flatten.mpr ⟨k, pm2.mem_iff.mpr (.tail _ hk), hx⟩))) hk0 (fun q => eL (List.mem_flatten.mpr ⟨k, hk, q⟩)) (fun q => bL (List.mem_flatten.mpr ⟨k, hk, q⟩))
    · rw [List.flatten_cons]; exact p4
    · rw [lL, pm2.length_eq]; rfl
    · rw [g1] at q
      cases T with
      | nil => exact hT rfl
      | cons t T => exact hbT (by rw [← show t = b from q]; exact List.mem_cons_self)
    · rw [g2] at q
      cases S with
      | nil => exact hS rfl
      | cons s S => exact eS (by rw [← show s = e from q]; exact List.mem_cons_self)
end

/-! what hangs together, and how many parts -/
inductive Rch (W : WL) (a : Int) : Int → Prop
  | refl : Rch W a a
  | step {b c : Int} : Rch W a b → c ∈ rowsAt W b → Rch W a c
theorem Rch.trans {W : WL} {a b c : Int} (h : Rch W a b) (k : Rch W b c) : Rch W a c := by
  induction k with
  | refl => exact h
  | step _ m ih => exact ih.step m
theorem Rch.symm {W : WL} (w : Web W) {a b : Int} (h : Rch W a b) : Rch W b a := by
  induction h with
  | refl => exact .refl
  | step _ m ih => exact (Rch.refl.step (rowsS w m)).trans ih
theorem Rch.key {W : WL} (w : Web W) {a b : Int} (h : Rch W a b) (ha : a ∈ keysOf' W) : b ∈ keysOf' W := by
  cases h with
  | refl => exact ha
  | step _ m => exact rowsAt_key (rowsS w m)

def nameOf (u v : Int) : Int × Int := (if v < u then v else u, if v > u then v else u)
theorem name_sym (u v : Int) : nameOf u v = nameOf v u := by
  unfold nameOf
  refine Prod.ext ?_ ?_
  · show (if v < u then v else u) = (if u < v then u else v)
    split <;> split <;> omega
  · show (if v > u then v else u) = (if u > v then u else v)
    split <;> split <;> omega
theorem name_cases {u v x y : Int} (e : nameOf u v = nameOf x y) : (u = x ∧ v = y) ∨ (u = y ∧ v = x) := by
  simp only [nameOf, Prod.mk.injEq] at e
  obtain ⟨e1, e2⟩ := e
  split at e1 <;> split at e1 <;> split at e2 <;> split at e2 <;> omega
def withoutW (N : List (Int × Int)) (W : WL) : WL := mapRows (fun u r => r.filter fun v => !decide (nameOf u v ∈ N)) W
theorem withoutW_web {W : WL} (w : Web W) (N : List (Int × Int)) : Web (withoutW N W) := w.thin (fun u v => !decide (nameOf u v ∈ N)) fun u v => by rw [name_sym]
theorem withoutW_keys (N : List (Int × Int)) (W : WL) : keysOf' (withoutW N W) = keysOf' W := keys_map _ _
/-! Euler's count of a web -/
theorem nxt_cut {l l2 : List Int} {b v : Int} (nd : (l ++ b :: v :: l2).Nodup) {a : Int} (ha : a ∈ l ++ b :: l2) : nxt (l ++ b :: l2) a = if nxt (l ++ b :: v :: l2) a = v then nxt (l ++ b :: v :: l2) v else nxt (l ++ b :: v :: l2) a := by
  have n1 := List.nodup_append.mp nd
  have n2 := List.nodup_cons.mp n1.2.1
  have n3 := List.nodup_cons.mp n2.2
  have bl : b ∉ l := fun q => n1.2.2 b q b List.mem_cons_self rfl
  have vl : v ∉ l := fun q => n1.2.2 v q v (by simp) rfl
  have er : ins (l ++ b :: l2) b v = l ++ b :: v :: l2 := ins_app bl
  have hb : b ∈ l ++ b :: l2 := by simp
  have hv : v ∉ l ++ b :: l2 := fun q => by
    rcases List.mem_append.mp q with q | q
    · exact vl q
    · rcases List.mem_cons.mp q with q | q
      · exact n2.1 (q ▸ List.mem_cons_self)
      · exact n3.1 q
  have nd' : (l ++ b :: l2).Nodup := by
    refine nd.sublist ?_
    exact List.Sublist.append_left (.cons₂ _ (.cons _ (.refl _))) _
  rw [← er]
  by_cases q : a = b
  · subst q
    rw [nxt_ins_a (h := hb), if_pos rfl, nxt_ins_p (h := hb) (hp := hv)]
    all_goals exact hv
  · rw [nxt_ins_b (h := hb) (hp := hv) ha q nd', if_neg fun z => hv (by rw [← z]; exact nxt_mem ha)]
theorem nxt_del {r : List Int} (nd : r.Nodup) {v a : Int} (hv : v ∈ r) (ha : a ∈ r) (ne : a ≠ v) : nxt (r.filter fun q => !decide (q = v)) a = if nxt r a = v then nxt r v else nxt r a := by
  obtain ⟨l1, l2, e, n1, _⟩ := split_at hv
  have n2 := List.nodup_append.mp (e ▸ nd)
  have v2 : v ∉ l2 := (List.nodup_cons.mp n2.2.1).1
  have ef : (r.filter fun q => !decide (q = v)) = l1 ++ l2 := by
    rw [e, List.filter_append, List.filter_cons_of_neg (by simp)]
    congr 1
    · exact List.filter_eq_self.mpr fun x hx => by simp; exact fun q => n1 (q ▸ hx)
    · exact List.filter_eq_self.mpr fun x hx => by simp; exact fun q => v2 (q ▸ hx)
  have ha2 : a ∈ l1 ++ l2 := by rw [← ef]; exact List.mem_filter.mpr ⟨ha, by simpa using ne⟩
  rw [ef]
  rcases List.eq_nil_or_concat l1 with h0 | ⟨l, b, h0⟩
  · subst h0
    rcases List.eq_nil_or_concat l2 with h1 | ⟨l, b, h1⟩
    · subst h1; cases ha2
    · have er : r.drop 1 ++ r.take 1 = l ++ b :: v :: [] := by rw [e, h1]; simp
      rw [← nxt_rot nd ha 1, ← nxt_rot nd hv 1, er, h1]
      simp only [List.nil_append, List.concat_eq_append]
      refine nxt_cut ?_ ?_
      · rw [← er]
        exact (List.perm_append_comm.trans (.of_eq (List.take_append_drop 1 r))).nodup_iff.mpr nd
      · rw [h1] at ha2; simpa using ha2
  · have er : r = l ++ b :: v :: l2 := by rw [e, h0]; simp
    have el : l1 ++ l2 = l ++ b :: l2 := by rw [h0]; simp
    rw [el, er]
    exact nxt_cut (er ▸ nd) (el ▸ ha2)
theorem mem_st {W : WL} {a c : Int} : (a, c) ∈ stepsOf W ↔ c ∈ rowsAt W a := by
  rw [mem_steps]
  constructor
  · rintro ⟨r, e, h⟩; rw [rowsAt_of e]; exact h
  · intro h
    obtain ⟨r, e⟩ := mem_rowOf (rowsAt_key h)
    exact ⟨r, e, by rw [← rowsAt_of e]; exact h⟩
theorem rowsAt_wo (N : List (Int × Int)) (W : WL) (u : Int) : rowsAt (withoutW N W) u = (rowsAt W u).filter fun v => !decide (nameOf u v ∈ N) := by
  unfold rowsAt withoutW
  rw [rowOf_map]
  cases rowOf W u <;> rfl
def cutW (W : WL) (u v : Int) : WL := withoutW [nameOf u v] W
theorem name_iff {p x u v : Int} : nameOf p x = nameOf u v ↔ (p = u ∧ x = v) ∨ (p = v ∧ x = u) := ⟨name_cases, fun h => by
  rcases h with ⟨rfl, rfl⟩ | ⟨rfl, rfl⟩
  · rfl
  · exact name_sym _ _⟩
theorem cut_sym (W : WL) (u v : Int) : cutW W u v = cutW W v u := by unfold cutW; rw [name_sym]
theorem cut_row {W : WL} {u v : Int} (ne : u ≠ v) : rowsAt (cutW W u v) u = (rowsAt W u).filter fun q => !decide (q = v) := by
  unfold cutW
  rw [rowsAt_wo]
  refine List.filter_congr fun x _ => ?_
  rw [Bool.eq_iff_iff]
  simp only [Bool.not_eq_true', decide_eq_false_iff_not, List.mem_singleton, name_iff]
  exact ⟨fun h q => h (.inl ⟨trivial, q⟩), fun h q => q.elim (fun z => h z.2) fun z => ne z.1⟩
theorem cut_other {W : WL} {u v p : Int} (h1 : p ≠ u) (h2 : p ≠ v) : rowsAt (cutW W u v) p = rowsAt W p := by
  unfold cutW
  rw [rowsAt_wo]
  refine List.filter_eq_self.mpr fun x _ => ?_
  simp only [Bool.not_eq_true', decide_eq_false_iff_not, List.mem_singleton, name_iff]
  exact fun q => q.elim (fun z => h1 z.1) fun z => h2 z.1
theorem cut_mem {W : WL} {u v p q : Int} : q ∈ rowsAt (cutW W u v) p ↔ q ∈ rowsAt W p ∧ ¬ ((p = u ∧ q = v) ∨ (p = v ∧ q = u)) := by
  unfold cutW
  rw [rowsAt_wo, List.mem_filter]
  simp only [Bool.not_eq_true', decide_eq_false_iff_not, List.mem_singleton, name_iff]
section
variable {W : WL} (w : Web W) {u v : Int} (huv : v ∈ rowsAt W u)
include w huv
theorem ends_ne : u ≠ v := fun q => (rowsAt_ok w u).2 (q ▸ huv)
theorem steps_cut : (stepsOf W).Perm ((u, v) :: (v, u) :: stepsOf (cutW W u v)) := by
  have ne := ends_ne w huv
  have w' : Web (cutW W u v) := withoutW_web w _
  refine (List.perm_ext_iff_of_nodup (steps_nodup w) ?_).mpr fun x => ?_
  · refine List.nodup_cons.mpr ⟨fun h => ?_, List.nodup_cons.mpr ⟨fun h => ?_, steps_nodup w'⟩⟩
    · rcases List.mem_cons.mp h with q | q
      · exact ne (Prod.mk.inj q).1
      · exact (cut_mem.mp (mem_st.mp q)).2 (.inl ⟨rfl, rfl⟩)
    · exact (cut_mem.mp (mem_st.mp h)).2 (.inr ⟨rfl, rfl⟩)
  · obtain ⟨p, q⟩ := x
    rw [List.mem_cons, List.mem_cons, mem_st, mem_st, cut_mem, Prod.mk.injEq, Prod.mk.injEq]
    constructor
    · intro h
      by_cases h1 : p = u ∧ q = v
      · exact .inl h1
      · by_cases h2 : p = v ∧ q = u
        · exact .inr (.inl h2)
        · exact .inr (.inr ⟨h, fun z => z.elim h1 h2⟩)
    · rintro (⟨rfl, rfl⟩ | ⟨rfl, rfl⟩ | h)
      · exact huv
      · exact rowsS w huv
      · exact h.1
theorem behind_cut {x : Int × Int} (hx : x ∈ stepsOf W) (h1 : x ≠ (u, v)) (h2 : x ≠ (v, u)) :
    (behindF W x = (u, v) → behindF (cutW W u v) x = behindF W (v, u)) ∧ (behindF W x = (v, u) → behindF (cutW W u v) x = behindF W (u, v)) ∧ (behindF W x ≠ (u, v) → behindF W x ≠ (v, u) → behindF (cutW W u v) x = behindF W x) := by
  have ne := ends_ne w huv
  have hvu := rowsS w huv
  obtain ⟨p, q⟩ := x
  have hp : p ∈ rowsAt W q := rowsS w (mem_st.mp hx)
  unfold behindF
  simp only [Prod.mk.injEq]
  by_cases a : q = u
  · subst a
    have pv : p ≠ v := fun z => h2 (by rw [z])
    rw [cut_row ne, nxt_del (rowsAt_ok w q).1 huv hp pv]
    refine ⟨fun z => ?_, fun z => absurd z.1 ne, fun z _ => ?_⟩
    · rw [if_pos z.2]; exact ⟨rfl, rfl⟩
    · rw [if_neg fun k => z (by rw [k])]; simp
  · by_cases b : q = v
    · subst b
      have pu : p ≠ u := fun z => h1 (by rw [z])
      rw [cut_sym, cut_row ne.symm, nxt_del (rowsAt_ok w q).1 hvu hp pu]
      refine ⟨fun z => absurd z.1.symm ne, fun z => ?_, fun _ z => ?_⟩
      · rw [if_pos z.2]; exact ⟨rfl, rfl⟩
      · rw [if_neg fun k => z (by rw [k])]; simp
    · rw [cut_other a b]
      exact ⟨fun z => absurd z.1 a, fun z => absurd z.1 b, fun _ _ => ⟨trivial, rfl⟩⟩
end
/-- points that no tie holds -/
def isoN (W : WL) : Nat := ((keysOf' W).filter fun p => (rowsAt W p).isEmpty).length
theorem cnt2 {K : List Int} (nd : K.Nodup) {u v : Int} (hu : u ∈ K) (hv : v ∈ K) (ne : u ≠ v) (f g : Int → Bool) (hfg : ∀ p ∈ K, f p = true → g p = true) (fu : f u = false) (fv : f v = false) : (K.filter f).length + b01 (g u) + b01 (g v) ≤ (K.filter g).length := by
  have n1 : (K.filter f ++ ((if g u = true then [u] else []) ++ if g v = true then [v] else [])).Nodup := by
    refine List.nodup_append.mpr ⟨nd.sublist List.filter_sublist, ?_, ?_⟩
    · split <;> split <;> simp [ne]
    · intro a ha b hb e
      subst e
      have fa := (List.mem_filter.mp ha).2
      rcases List.mem_append.mp hb with hb | hb
      · split at hb
        · rw [List.mem_singleton.mp hb, fu] at fa; cases fa
        · cases hb
      · split at hb
        · rw [List.mem_singleton.mp hb, fv] at fa; cases fa
        · cases hb
  have := sub_len' n1 (k := K.filter g) (fun x hx => by
    rcases List.mem_append.mp hx with h | h
    · have := List.mem_filter.mp h
      exact List.mem_filter.mpr ⟨this.1, hfg x this.1 this.2⟩
    · rcases List.mem_append.mp h with h | h
      · split at h
        · rename_i q; rw [List.mem_singleton.mp h]; exact List.mem_filter.mpr ⟨hu, q⟩
        · cases h
      · split at h
        · rename_i q; rw [List.mem_singleton.mp h]; exact List.mem_filter.mpr ⟨hv, q⟩
        · cases h)
  refine Nat.le_trans (Nat.le_of_eq ?_) this
  rw [List.length_append, List.length_append, Nat.add_assoc]
  congr 1
  unfold b01
  split <;> split <;> rfl
theorem cut_keys (W : WL) (u v : Int) : keysOf' (cutW W u v) = keysOf' W := withoutW_keys _ _
theorem iso_cut {W : WL} (w : Web W) {u v : Int} (huv : v ∈ rowsAt W u) : isoN W + b01 (behindF W (u, v) = (v, u)) + b01 (behindF W (v, u) = (u, v)) ≤ isoN (cutW W u v) := by
  have ne := ends_ne w huv
  have hvu := rowsS w huv
  have hu := rowsAt_key huv
  have hv := rowsAt_key hvu
  have one : ∀ {a b : Int}, b ∈ rowsAt W a → a ≠ b → nxt (rowsAt W a) b = b → rowsAt (cutW W a b) a = [] := fun {a b} hb nab e => by
    have l2 : ¬ 2 ≤ (rowsAt W a).length := fun q => nxt_ne hb (rowsAt_ok w a).1 q e
    rw [cut_row nab]
    cases er : rowsAt W a with
    | nil => rfl
    | cons x t =>
      cases t with
      | nil =>
        rw [er] at hb
        rw [List.mem_singleton.mp hb]
        simp
      | cons y t => rw [er] at l2; simp at l2
  have h := cnt2 w.nd hu hv ne (fun p => (rowsAt W p).isEmpty) (fun p => (rowsAt (cutW W u v) p).isEmpty) (fun p _ q => by
    have : rowsAt W p = [] := List.isEmpty_iff.mp q
    refine List.isEmpty_iff.mpr (List.eq_nil_iff_forall_not_mem.mpr fun x hx => ?_)
    have := (cut_mem.mp hx).1
    simp_all) (by cases e : rowsAt W u with
      | nil => rw [e] at huv; cases huv
      | cons _ _ => rfl) (by cases e : rowsAt W v with
      | nil => rw [e] at hvu; cases hvu
      | cons _ _ => rfl)
  unfold isoN
  rw [cut_keys]
  have b1 : b01 (decide (behindF W (u, v) = (v, u))) ≤ b01 ((rowsAt (cutW W u v) v).isEmpty) := by
    unfold b01
    split
    · rename_i q
      have q2 : nxt (rowsAt W v) u = u := (Prod.mk.inj (of_decide_eq_true q)).2
      rw [cut_sym, one hvu ne.symm q2]; simp
    · omega
  have b2 : b01 (decide (behindF W (v, u) = (u, v))) ≤ b01 ((rowsAt (cutW W u v) u).isEmpty) := by
    unfold b01
    split
    · rename_i q
      have q2 : nxt (rowsAt W u) v = v := (Prod.mk.inj (of_decide_eq_true q)).2
      rw [one huv ne q2]; simp
    · omega
  omega
/-- points from which all others are reached -/
def Spn (W : WL) (R : List Int) : Prop := ∀ x ∈ keysOf' W, ∃ r ∈ R, Rch W r x
theorem rch_cut {W : WL} (w : Web W) {u v r x : Int} (huv : v ∈ rowsAt W u) (h : Rch W r x) :
    Rch (cutW W u v) r x ∨ ((Rch (cutW W u v) r u ∨ Rch (cutW W u v) r v) ∧ (Rch (cutW W u v) u x ∨ Rch (cutW W u v) v x)) := by
  induction h with
  | refl => exact .inl .refl
  | @step b c _ m ih =>
    by_cases q1 : b = u ∧ c = v
    · obtain ⟨rfl, rfl⟩ := q1
      rcases ih with k | k
      · exact .inr ⟨.inl k, .inr .refl⟩
      · exact .inr ⟨k.1, .inr .refl⟩
    · by_cases q2 : b = v ∧ c = u
      · obtain ⟨rfl, rfl⟩ := q2
        rcases ih with k | k
        · exact .inr ⟨.inr k, .inl .refl⟩
        · exact .inr ⟨k.1, .inl .refl⟩
      · have m' : c ∈ rowsAt (cutW W u v) b := cut_mem.mpr ⟨m, fun z => z.elim q1 q2⟩
        rcases ih with k | k
        · exact .inl (k.step m')
        · exact .inr ⟨k.1, k.2.elim (fun z => .inl (z.step m')) fun z => .inr (z.step m')⟩
theorem spn_same {W : WL} (w : Web W) {u v : Int} (huv : v ∈ rowsAt W u) {R : List Int} (s : Spn W R) (h : Rch (cutW W u v) u v) : Spn (cutW W u v) R := fun x hx => by
  have w' : Web (cutW W u v) := withoutW_web w _
  rw [cut_keys] at hx
  obtain ⟨r, hr, k⟩ := s x hx
  refine ⟨r, hr, ?_⟩
  rcases rch_cut w huv k with q | ⟨q1, q2⟩
  · exact q
  · have a : Rch (cutW W u v) r u := q1.elim id fun z => z.trans (h.symm w')
    exact q2.elim (fun z => a.trans z) fun z => (a.trans h).trans z
theorem spn_more {W : WL} (w : Web W) {u v : Int} (huv : v ∈ rowsAt W u) {R : List Int} (s : Spn W R) : ∃ z, Spn (cutW W u v) (z :: R) := by
  have hu := rowsAt_key huv
  have hv := rowsAt_key (rowsS w huv)
  have key : ∀ a : Int, (∃ r ∈ R, Rch (cutW W u v) r a) → ∀ z : Int, (∀ x, Rch (cutW W u v) u x ∨ Rch (cutW W u v) v x → ∃ r ∈ z :: R, Rch (cutW W u v) r x) → Spn (cutW W u v) (z :: R) := fun a _ z hz x hx => by
    rw [cut_keys] at hx
    obtain ⟨r, hr, k⟩ := s x hx
    rcases rch_cut w huv k with q | ⟨_, q2⟩
    · exact ⟨r, .tail _ hr, q⟩
    · exact hz x q2
  by_cases h : ∃ r ∈ R, Rch (cutW W u v) r u
  · refine ⟨v, key u h v fun x hx => ?_⟩
    obtain ⟨r, hr, k⟩ := h
    exact hx.elim (fun z => ⟨r, .tail _ hr, k.trans z⟩) fun z => ⟨v, List.mem_cons_self, z⟩
  · obtain ⟨r, hr, k⟩ := s v hv
    have kv : Rch (cutW W u v) r v := by
      rcases rch_cut w huv k with q | ⟨q1, _⟩
      · exact q
      · exact q1.elim (fun z => absurd ⟨r, hr, z⟩ h) id
    refine ⟨u, key v ⟨r, hr, kv⟩ u fun x hx => ?_⟩
    exact hx.elim (fun z => ⟨u, List.mem_cons_self, z⟩) fun z => ⟨r, .tail _ hr, kv.trans z⟩
/-- a walk over steps leads from its first tail to its end's tail -/
theorem walk_rch {V : WL} {W : WL} {z : Int × Int} : ∀ (T : List (Int × Int)), (∀ x ∈ T, x ∈ stepsOf V) → Pth (behindF W) T z → Rch V (T.headD z).1 z.1
  | [], _, _ => .refl
  | x :: t, hT, p => by
    have e : (t.headD z).1 = x.2 := by rw [← p.1]; rfl
    have ih := walk_rch t (fun y hy => hT y (.tail _ hy)) p.2
    rw [e] at ih
    have hx : x.2 ∈ rowsAt V x.1 := mem_st.mp (hT x List.mem_cons_self)
    exact (Rch.refl.step hx).trans ih
/-- a tie falls -/
theorem eul_cut {W : WL} (w : Web W) {u v : Int} (huv : v ∈ rowsAt W u) {L : List (List (Int × Int))} {R : List Int} (c : Cov (behindF W) (stepsOf W) L) (s : Spn W R) :
    ∃ L' R', Cov (behindF (cutW W u v)) (stepsOf (cutW W u v)) L' ∧ Spn (cutW W u v) R' ∧ 2 * L.length + 2 * isoN W + (stepsOf (cutW W u v)).length + 4 * R'.length ≤ 2 * L'.length + 2 * isoN (cutW W u v) + (stepsOf W).length + 4 * R.length := by
  have ne := ends_ne w huv
  have pm := steps_cut w huv
  have ln := pm.length_eq
  simp only [List.length_cons] at ln
  have w' : Web (cutW W u v) := withoutW_web w _
  have io := iso_cut w huv
  rcases cov_cut (φ' := behindF (cutW W u v)) (steps_nodup w) c pm (fun q => ne (Prod.mk.inj q).1) (fun q => ne (Prod.mk.inj q).1.symm) (fun q => ne (Prod.mk.inj q).1) (fun x hx h1 h2 => behind_cut w huv hx h1 h2) with ⟨L', T, cL, lL, pT, hT, _, _⟩ | ⟨L', cL, lL⟩
  · have r := walk_rch (V := cutW W u v) T hT pT.2
    have e : (T.headD (u, v)).1 = v := by rw [← pT.1]; rfl
    rw [e] at r
    refine ⟨L', R, cL, spn_same w huv s (r.symm w'), ?_⟩
    omega
  · obtain ⟨z, sz⟩ := spn_more w huv s
    refine ⟨L', z :: R, cL, sz, ?_⟩
    rw [List.length_cons]
    omega
theorem nodup_sub_len {K R : List Int} (nd : K.Nodup) (h : ∀ x ∈ K, x ∈ R) : K.length ≤ R.length := sub_len nd h
theorem eul_le : ∀ (n : Nat) {W : WL} {L : List (List (Int × Int))} {R : List Int}, Web W → (stepsOf W).length ≤ n → Cov (behindF W) (stepsOf W) L → Spn W R → 2 * W.length + 2 * L.length + 2 * isoN W ≤ (stepsOf W).length + 4 * R.length
  | n, W, L, R, w, hn, c, s => by
    cases e : stepsOf W with
    | nil =>
      have no : ∀ u v, v ∉ rowsAt W u := fun u v h => by
        have := mem_st.mpr h
        rw [e] at this; cases this
      have l0 : L = [] := by
        rw [e] at c
        cases L with
        | nil => rfl
        | cons k L =>
          have := List.Perm.eq_nil c.perm
          rw [List.flatten_cons, List.append_eq_nil_iff] at this
          exact absurd this.1 (c.cyc k List.mem_cons_self).ne
      have kr : (keysOf' W).length ≤ R.length := nodup_sub_len w.nd fun x hx => by
        obtain ⟨r, hr, k⟩ := s x hx
        cases k with
        | refl => exact hr
        | step _ m => exact absurd m (no _ _)
      have io : isoN W ≤ (keysOf' W).length := List.length_filter_le _ _
      rw [keys_len] at kr io
      rw [l0]
      simp only [List.length_nil]
      omega
    | cons x t =>
      obtain ⟨u, v⟩ := x
      have huv : v ∈ rowsAt W u := mem_st.mp (by rw [e]; exact List.mem_cons_self)
      have ln := (steps_cut w huv).length_eq
      simp only [List.length_cons] at ln
      obtain ⟨L', R', cL, sR, le⟩ := eul_cut w huv c s
      have w' : Web (cutW W u v) := withoutW_web w _
      cases n with
      | zero => omega
      | succ n =>
        have ih := eul_le n w' (by omega) cL sR
        have lk : (cutW W u v).length = W.length := by rw [← keys_len, cut_keys, keys_len]
        rw [← e]
        omega
/-- a flat web: Euler's count is reached -/
def Flt (W : WL) : Prop := ∃ L R, Cov (behindF W) (stepsOf W) L ∧ Spn W R ∧ (stepsOf W).length + 4 * R.length ≤ 2 * W.length + 2 * L.length + 2 * isoN W
theorem Flt.cut {W : WL} (w : Web W) (f : Flt W) {u v : Int} (huv : v ∈ rowsAt W u) : Flt (cutW W u v) := by
  obtain ⟨L, R, c, s, le⟩ := f
  obtain ⟨L', R', c', s', le'⟩ := eul_cut w huv c s
  have lk : (cutW W u v).length = W.length := by rw [← keys_len, cut_keys, keys_len]
  exact ⟨L', R', c', s', by omega⟩
theorem Flt.thin {P : Int → Int → Bool} (hs : ∀ u v, P u v = P v u) : ∀ (n : Nat) {W : WL}, Web W → (stepsOf W).length ≤ n → Flt W → Flt (mapRows (fun u r => r.filter (P u)) W)
  | n, W, w, hn, f => by
    by_cases h : ∃ u v, v ∈ rowsAt W u ∧ P u v = false
    · obtain ⟨u, v, huv, pf⟩ := h
      have w' : Web (cutW W u v) := withoutW_web w _
      have ln := (steps_cut w huv).length_eq
      simp only [List.length_cons] at ln
      cases n with
      | zero => omega
      | succ n =>
        have ih := Flt.thin hs n w' (by omega) (f.cut w huv)
        have e : mapRows (fun u r => r.filter (P u)) (cutW W u v) = mapRows (fun u r => r.filter (P u)) W := by
          unfold cutW withoutW mapRows
          rw [List.map_map]
          refine List.map_congr_left fun p _ => ?_
          simp only [Function.comp_apply, Prod.mk.injEq, true_and]
          rw [List.filter_filter]
          refine List.filter_congr fun q _ => ?_
          by_cases z : nameOf p.1 q = nameOf u v
          · have : P p.1 q = false := by
              rcases name_cases z with ⟨a, b⟩ | ⟨a, b⟩
              · rw [a, b]; exact pf
              · rw [a, b, hs]; exact pf
            simp [this]
          · simp [z]
        rw [← e]; exact ih
    · have e : mapRows (fun u r => r.filter (P u)) W = W := by
        unfold mapRows
        refine (List.map_congr_left fun p hp => ?_).trans (List.map_id _)
        have er := rowOf_of_mem w.nd (show (p.1, p.2) ∈ W from hp)
        have : p.2.filter (P p.1) = p.2 := List.filter_eq_self.mpr fun q hq => by
          cases z : P p.1 q with
          | true => rfl
          | false => exact absurd ⟨p.1, q, by rw [rowsAt_of er]; exact hq, z⟩ h
        show (p.1, p.2.filter (P p.1)) = p
        rw [this]
      rw [e]; exact f

/-! the faces walked are a cover; three-cornered webs, webs side by side, turned webs -/
theorem fc_pth {W : WL} (w : Web W) {s0 : Int × Int} {S : List (Int × Int)} (sn : SnOk W S) : ∀ (k : Nat) (p : Int × Int) (L : List (Int × Int)), FcOk W s0 S L p → (stepsOf W).length < k + L.length → (∃ t, L = s0 :: t) → Pth (behindF W) L p → (∃ t, fcF W s0 k p L = s0 :: t) ∧ Pth (behindF W) (fcF W s0 k p L) s0
  | 0, p, L, ok, hk, _, _ => by have := ok.len; omega
  | k + 1, p, L, ok, hk, hL, pp => by
    unfold fcF
    split
    · rename_i e
      exact ⟨hL, e ▸ pp⟩
    · rename_i ne
      refine fc_pth w sn k _ _ (ok.step w sn ne) (by simp only [List.length_append, List.length_singleton]; omega) ?_ ?_
      · obtain ⟨t, rfl⟩ := hL
        exact ⟨t ++ [p], rfl⟩
      · rw [pth_append]
        exact ⟨pp, rfl, trivial⟩
theorem face_cyc {W : WL} (w : Web W) {s0 : Int × Int} {S : List (Int × Int)} (sn : SnOk W S) (h0 : s0 ∈ stepsOf W) (hS : s0 ∉ S) : Cyc (behindF W) (faceOf W s0) := by
  obtain ⟨⟨t, e⟩, p⟩ := fc_pth w sn _ _ _ (.start h0 hS) (show (stepsOf W).length < (stepsOf W).length + 1 + [s0].length by simp only [List.length_singleton]; omega) ⟨[], rfl⟩ ⟨rfl, trivial⟩
  exact ⟨s0, t, e, p⟩
theorem fs_cov {W : WL} (w : Web W) : ∀ (r S : List (Int × Int)) (L : List (List Int)), (∀ s ∈ r, s ∈ stepsOf W) → SnOk W S → (∃ L2 : List (List (Int × Int)), L = L2.map (·.map (·.1)) ∧ (∀ c ∈ L2, Cyc (behindF W) c) ∧ L2.flatten = S) →
    ∃ L2 : List (List (Int × Int)), (fsF W r S L).2 = L2.map (·.map (·.1)) ∧ (∀ c ∈ L2, Cyc (behindF W) c) ∧ L2.flatten = (fsF W r S L).1
  | [], S, L, _, _, h => h
  | s :: r, S, L, hr, sn, h => by
    unfold fsF
    have hr' : ∀ q ∈ r, q ∈ stepsOf W := fun q hq => hr q (List.mem_cons_of_mem _ hq)
    split
    · exact fs_cov w r S L hr' sn h
    · rename_i z
      have h0 := hr s List.mem_cons_self
      refine fs_cov w r _ _ hr' (sn.join (faceOf_ok w sn h0 z)) ?_
      obtain ⟨L2, e, c, f⟩ := h
      refine ⟨L2 ++ [faceOf W s], by rw [e, List.map_append]; rfl, fun k hk => ?_, by rw [List.flatten_append, f]; simp⟩
      rcases List.mem_append.mp hk with q | q
      · exact c k q
      · rw [List.mem_singleton.mp q]; exact face_cyc w sn h0 z
theorem faces_cov {W : WL} (w : Web W) : ∃ L, Cov (behindF W) (stepsOf W) L ∧ facesOf W = L.map (·.map (·.1)) := by
  obtain ⟨L, e, c, f⟩ := fs_cov w (stepsOf W) [] [] (fun _ h => h) .nil ⟨[], rfl, fun _ h => (nomatch h), rfl⟩
  obtain ⟨ok, _, cl⟩ := fsF_ok w (stepsOf W) [] [] (fun _ h => h) .nil
  refine ⟨L, ⟨c, ?_⟩, e⟩
  rw [f]
  exact (List.perm_ext_iff_of_nodup ok.sn.nd (steps_nodup w)).mpr fun x => ⟨ok.sn.sub x, cl x⟩
/-! ### three-cornered webs -/
theorem cyc3 {α : Type} [DecidableEq α] {φ : α → α} {c : List α} (h : Cyc φ c) (nd : c.Nodup) (h3 : ∀ x ∈ c, φ (φ (φ x)) = x) : c.length ≤ 3 := by
  obtain ⟨x, t, rfl, p⟩ := h
  match t, p, nd, h3 with
  | [], _, _, _ => simp
  | [_], _, _, _ => simp
  | [_, _], _, _, _ => simp
  | y :: z :: w :: t, p, nd, h3 =>
    have a : φ x = y := p.1
    have b : φ y = z := p.2.1
    have c : φ z = w := p.2.2.1
    have d := h3 x List.mem_cons_self
    rw [a, b, c] at d
    subst d
    simp at nd
theorem flat3 : ∀ {L : List (List (Int × Int))}, (∀ c ∈ L, c.length ≤ 3) → L.flatten.length ≤ 3 * L.length
  | [], _ => by simp
  | c :: L, h => by
    have := flat3 (L := L) fun k hk => h k (.tail _ hk)
    have := h c List.mem_cons_self
    rw [List.flatten_cons, List.length_append, List.length_cons]
    omega
theorem stepsF_num (W : WL) : ∀ ks : List Int, (stepsF W ks).length = (ks.map fun u => (rowsAt W u).length).sum
  | [] => rfl
  | u :: ks => by
    have := stepsF_num W ks
    unfold stepsF at this ⊢
    rw [List.flatMap_cons, List.length_append, this, List.length_map, (sortI_perm _).length_eq, List.map_cons, List.sum_cons]
theorem steps_sum {W : WL} (w : Web W) : (stepsOf W).length = sumR W := by
  unfold stepsOf
  rw [stepsF_num, ((sortI_perm (keysOf' W)).map _).sum_nat]
  unfold keysOf' sumR
  rw [List.map_map]
  congr 1
  refine List.map_congr_left fun p hp => ?_
  rw [Function.comp_apply, rowsAt_of (rowOf_of_mem w.nd (show (p.1, p.2) ∈ W from hp))]
theorem tri_flt {W : WL} (T : Tri W) (g : Grw W) (ne : W ≠ []) : Flt W := by
  have w := T.web
  obtain ⟨L, c, _⟩ := faces_cov w
  obtain ⟨a, W0, rfl⟩ := List.exists_cons_of_ne_nil ne
  have ha : a.1 ∈ keysOf' (a :: W0) := by simp [keysOf']
  have sp : Spn (a :: W0) [a.1] := fun x hx => ⟨a.1, by simp, g.con (fun y => Rch (a :: W0) a.1 y) (fun x r y e hy h => h.step (by rw [rowsAt_of e]; exact hy)) a.1 x ha hx .refl⟩
  have l3 : (stepsOf (a :: W0)).length ≤ 3 * L.length := by
    rw [← c.perm.length_eq]
    refine flat3 fun k hk => ?_
    have nf : L.flatten.Nodup := c.perm.nodup_iff.mpr (steps_nodup w)
    refine cyc3 (c.cyc k hk) ((List.sublist_flatten_of_mem hk).nodup nf) fun x hx => ?_
    have hs := c.perm.mem_iff.mp (List.mem_flatten.mpr ⟨k, hk, hx⟩)
    obtain ⟨u, v⟩ := x
    obtain ⟨r, er, hv⟩ := mem_steps.mp hs
    obtain ⟨rv, ev, _⟩ := w.sym u v r er hv
    obtain ⟨hx, rz, ez, hz, hyz, hzx, hxz, d1, d2, d3, f1, f2⟩ := T.corners er hv ev
    unfold behindF
    simp only
    rw [rowsAt_of ev, rowsAt_of ez, f1, rowsAt_of er, f2]
  have ss := steps_sum w
  have gs := g.sum
  refine ⟨L, [a.1], c, sp, ?_⟩
  simp only [List.length_singleton]
  omega
/-! ### webs side by side -/
theorem bare_flt {os : List Int} (nd : os.Nodup) : Flt (os.map fun p => (p, ([] : List Int))) := by
  have k : keysOf' (os.map fun p => (p, ([] : List Int))) = os := by simp [keysOf', Function.comp_def]
  have z : ∀ u, rowsAt (os.map fun p => (p, ([] : List Int))) u = [] := fun u => by
    unfold rowsAt
    cases e : rowOf (os.map fun p => (p, ([] : List Int))) u with
    | none => rfl
    | some r =>
      obtain ⟨p, _, q⟩ := List.mem_map.mp (mem_of_rowOf e)
      exact (Prod.mk.inj q).2.symm
  have s0 : stepsOf (os.map fun p => (p, ([] : List Int))) = [] := List.eq_nil_iff_forall_not_mem.mpr fun x hx => by
    obtain ⟨a, b⟩ := x
    have := mem_st.mp hx
    rw [z] at this; cases this
  refine ⟨[], os, ⟨fun _ h => (nomatch h), by rw [s0]; exact .refl _⟩, fun x hx => ⟨x, by rw [k] at hx; exact hx, .refl⟩, ?_⟩
  have : isoN (os.map fun p => (p, ([] : List Int))) = os.length := by
    unfold isoN
    rw [k, List.filter_eq_self.mpr fun x _ => by rw [z]; rfl]
  rw [s0, this, List.length_map]
  simp
  omega
theorem pth_congr {α : Type} {φ ψ : α → α} {z : α} : ∀ (A : List α), (∀ x ∈ A, ψ x = φ x) → Pth φ A z → Pth ψ A z
  | [], _, _ => trivial
  | x :: t, h, p => ⟨(h x List.mem_cons_self).trans p.1, pth_congr t (fun y hy => h y (.tail _ hy)) p.2⟩
theorem cyc_congr {α : Type} {φ ψ : α → α} {c : List α} (h : ∀ x ∈ c, ψ x = φ x) (k : Cyc φ c) : Cyc ψ c := by
  obtain ⟨x, t, e, p⟩ := k
  exact ⟨x, t, e, pth_congr c h p⟩
theorem rowsAt_app1 {W V : WL} {u : Int} (hu : u ∈ keysOf' W) : rowsAt (W ++ V) u = rowsAt W u := by
  obtain ⟨r, e⟩ := mem_rowOf hu
  unfold rowsAt
  rw [rowOf_app, e]; rfl
theorem rowsAt_app2 {W V : WL} {u : Int} (hu : u ∉ keysOf' W) : rowsAt (W ++ V) u = rowsAt V u := by
  unfold rowsAt
  rw [rowOf_app, rowOf_none hu]; rfl
theorem Flt.join {W V : WL} (w : Web W) (v : Web V) (hd : ∀ u, u ∈ keysOf' W → u ∉ keysOf' V) (f : Flt W) (g : Flt V) : Flt (W ++ V) := by
  have wv := w.join v hd
  have a1 : ∀ {a c : Int}, c ∈ rowsAt W a → c ∈ rowsAt (W ++ V) a := fun h => by rw [rowsAt_app1 (rowsAt_key h)]; exact h
  have a2 : ∀ {a c : Int}, c ∈ rowsAt V a → c ∈ rowsAt (W ++ V) a := fun {a c} h => by rw [rowsAt_app2 fun q => hd a q (rowsAt_key h)]; exact h
  have r1 : ∀ {r x}, Rch W r x → Rch (W ++ V) r x := fun h => by
    induction h with
    | refl => exact .refl
    | step _ m ih => exact ih.step (a1 m)
  have r2 : ∀ {r x}, Rch V r x → Rch (W ++ V) r x := fun h => by
    induction h with
    | refl => exact .refl
    | step _ m ih => exact ih.step (a2 m)
  have pm : (stepsOf (W ++ V)).Perm (stepsOf W ++ stepsOf V) := by
    refine (List.perm_ext_iff_of_nodup (steps_nodup wv) (List.nodup_append.mpr ⟨steps_nodup w, steps_nodup v, fun x hx y hy e => ?_⟩)).mpr fun x => ?_
    · subst e
      obtain ⟨a, c⟩ := x
      exact hd a (rowsAt_key (mem_st.mp hx)) (rowsAt_key (mem_st.mp hy))
    · obtain ⟨a, c⟩ := x
      rw [List.mem_append, mem_st, mem_st, mem_st]
      constructor
      · intro h
        by_cases q : a ∈ keysOf' W
        · rw [rowsAt_app1 q] at h; exact .inl h
        · rw [rowsAt_app2 q] at h; exact .inr h
      · exact fun h => h.elim a1 a2
  have b1 : ∀ x ∈ stepsOf W, behindF (W ++ V) x = behindF W x := fun x hx => by
    obtain ⟨a, c⟩ := x
    unfold behindF
    rw [rowsAt_app1 (rowsAt_key (rowsS w (mem_st.mp hx)))]
  have b2 : ∀ x ∈ stepsOf V, behindF (W ++ V) x = behindF V x := fun x hx => by
    obtain ⟨a, c⟩ := x
    unfold behindF
    rw [rowsAt_app2 fun q => hd c q (rowsAt_key (rowsS v (mem_st.mp hx)))]
  obtain ⟨L1, R1, c1, s1, l1⟩ := f
  obtain ⟨L2, R2, c2, s2, l2⟩ := g
  have io : isoN (W ++ V) = isoN W + isoN V := by
    unfold isoN
    rw [keys_app, List.filter_append, List.length_append]
    congr 2
    · exact List.filter_congr fun x hx => by rw [rowsAt_app1 hx]
    · exact List.filter_congr fun x hx => by rw [rowsAt_app2 fun q => hd x q hx]
  refine ⟨L1 ++ L2, R1 ++ R2, ⟨fun k hk => ?_, ?_⟩, fun x hx => ?_, ?_⟩
  · rcases List.mem_append.mp hk with q | q
    · exact cyc_congr (fun x hx => b1 x (c1.perm.mem_iff.mp (List.mem_flatten.mpr ⟨k, q, hx⟩))) (c1.cyc k q)
    · exact cyc_congr (fun x hx => b2 x (c2.perm.mem_iff.mp (List.mem_flatten.mpr ⟨k, q, hx⟩))) (c2.cyc k q)
  · rw [List.flatten_append]
    exact (c1.perm.append c2.perm).trans pm.symm
  · rw [keys_app] at hx
    rcases List.mem_append.mp hx with q | q
    · obtain ⟨r, hr, k⟩ := s1 x q
      exact ⟨r, List.mem_append_left _ hr, r1 k⟩
    · obtain ⟨r, hr, k⟩ := s2 x q
      exact ⟨r, List.mem_append_right _ hr, r2 k⟩
  · rw [pm.length_eq, io]
    simp only [List.length_append]
    omega
theorem Rot.mem {W V : WL} (t : Rot W V) {a c : Int} (h : c ∈ rowsAt W a) : c ∈ rowsAt V a := by
  obtain ⟨r, e⟩ := mem_rowOf (rowsAt_key h)
  obtain ⟨k, ek⟩ := t.row a r e
  rw [rowsAt_of ek]
  rw [rowsAt_of e] at h
  exact (rot_perm k r).mem_iff.mpr h
theorem Rot.flt {W V : WL} (w : Web W) (t : Rot W V) (f : Flt W) : Flt V := by
  obtain ⟨L, R, c, s, le⟩ := f
  have lk : V.length = W.length := by rw [← keys_len, t.ks.length_eq, keys_len]
  have io : isoN V = isoN W := by
    unfold isoN
    rw [(t.ks.filter _).length_eq]
    congr 1
    refine List.filter_congr fun x hx => ?_
    obtain ⟨r, e⟩ := mem_rowOf hx
    obtain ⟨k, ek⟩ := t.row x r e
    have l := (rot_perm k r).length_eq
    rw [rowsAt_of ek, rowsAt_of e]
    generalize r.drop k ++ r.take k = r' at l
    cases r <;> cases r' <;> simp_all
  refine ⟨L, R, ⟨fun k hk => ?_, by rw [t.steps]; exact c.perm⟩, fun x hx => ?_, by rw [t.steps, lk, io]; exact le⟩
  · exact cyc_congr (fun x hx => t.behind w (c.perm.mem_iff.mp (List.mem_flatten.mpr ⟨k, hk, hx⟩))) (c.cyc k hk)
  · obtain ⟨r, hr, k⟩ := s x (t.ks.mem_iff.mp hx)
    refine ⟨r, hr, ?_⟩
    clear hr hx
    induction k with
    | refl => exact .refl
    | step _ m ih => exact ih.step (t.mem m)
/-! parts with some points shut: what they are -/
theorem rsymP {W : WL} (w : Web W) {u v : Int} (h : v ∈ rowsAt W u) : u ∈ rowsAt W v := by
  unfold rowsAt at h ⊢
  cases e : rowOf W u with
  | none => rw [e] at h; cases h
  | some r =>
    rw [e] at h
    obtain ⟨r', e', h'⟩ := w.sym u v r e h
    rw [e']
    exact h'
theorem inF_spec2 : ∀ (r S P : List Int), ∃ N, inF r S P = (S ++ N, P ++ N) ∧ (∀ x ∈ N, x ∈ r) ∧ ∀ x ∈ r, x ∈ S ++ N
  | [], S, P => ⟨[], by simp [inF], by simp, by simp⟩
  | q :: r, S, P => by
    unfold inF
    split
    · rename_i z
      obtain ⟨N, e, a, b⟩ := inF_spec2 r S P
      exact ⟨N, e, fun x hx => List.mem_cons_of_mem _ (a x hx), fun x hx => by
        rcases List.mem_cons.mp hx with rfl | hx
        · exact List.mem_append_left _ z
        · exact b x hx⟩
    · obtain ⟨N, e, a, b⟩ := inF_spec2 r (S ++ [q]) (P ++ [q])
      refine ⟨q :: N, by rw [e]; simp, fun x hx => ?_, fun x hx => ?_⟩
      · rcases List.mem_cons.mp hx with rfl | hx
        · exact List.mem_cons_self
        · exact List.mem_cons_of_mem _ (a x hx)
      · rcases List.mem_cons.mp hx with rfl | hx
        · simp
        · have := b x hx
          simpa using this
theorem flF_spec2 {W : WL} (w : Web W) (kl : W.length ≤ 900) : ∀ (k a : Nat) (S P : List Int), S.Nodup → (∀ x ∈ S, x ∈ keysOf' W) → (∀ x ∈ P, x ∈ keysOf' W) → P.length ≤ S.length → (∀ i x, i < a → P[i]? = some x → ∀ q ∈ rowsAt W x, q ∈ S) → 902 ≤ k + a →
    ∃ N, flF W k a S P = (S ++ N, P ++ N) ∧ (∀ x ∈ N, x ∈ keysOf' W) ∧ ∀ x ∈ P ++ N, ∀ q ∈ rowsAt W x, q ∈ S ++ N
  | k, a, S, P, sn, sk, pk, pl, cl, hk => by
    have sl := sub_len sn sk
    rw [keys_len] at sl
    have done : a ≥ P.length → ∃ N, (S, P) = (S ++ N, P ++ N) ∧ (∀ x ∈ N, x ∈ keysOf' W) ∧ ∀ x ∈ P ++ N, ∀ q ∈ rowsAt W x, q ∈ S ++ N := fun ha => ⟨[], by simp, by simp, fun x hx q hq => by
      rw [List.append_nil] at hx ⊢
      obtain ⟨i, hi, rfl⟩ := List.getElem_of_mem hx
      exact cl i _ (by omega) (List.getElem?_eq_getElem hi) q hq⟩
    cases k with
    | zero => exact done (by omega)
    | succ k =>
      unfold flF
      cases e : P[a]? with
      | none => exact done (List.getElem?_eq_none_iff.mp e)
      | some u =>
        have ha := (List.getElem?_eq_some_iff.mp e).1
        have ok := inF_ok (ks := keysOf' W) (rowsAt W u) S P (fun q hq => by
          have := rsymP w hq
          unfold rowsAt at this
          cases er : rowOf W q with
          | none => rw [er] at this; cases this
          | some r => exact rowOf_mem er) sn sk pk
        obtain ⟨N1, e1, a1, b1⟩ := inF_spec2 (rowsAt W u) S P
        have e1' : inF ((rowOf W u).getD []) S P = (S ++ N1, P ++ N1) := e1
        rw [e1] at ok
        simp only [e1']
        obtain ⟨N2, e2, a2, b2⟩ := flF_spec2 w kl k (a + 1) (S ++ N1) (P ++ N1) ok.nd ok.sk ok.pk (by simp only [List.length_append]; omega) (fun i x hi ex q hq => by
          by_cases z : i = a
          · subst z
            rw [List.getElem?_append_left ha, e] at ex
            cases ex
            exact b1 q hq
          · rw [List.getElem?_append_left (by omega)] at ex
            exact List.mem_append_left _ (cl i x (by omega) ex q hq)) (by omega)
        refine ⟨N1 ++ N2, by rw [e2, List.append_assoc, List.append_assoc], fun x hx => ?_, ?_⟩
        · rcases List.mem_append.mp hx with hx | hx
          · exact ok.sk x (List.mem_append_right _ hx)
          · exact a2 x hx
        · rw [← List.append_assoc, ← List.append_assoc]; exact b2
structure PartOk (W : WL) (out S : List Int) (L : List (List Int)) : Prop where
  nd : S.Nodup
  sk : ∀ x ∈ S, x ∈ keysOf' W
  pm : S.Perm (out ++ L.flatten)
  ne : ∀ r ∈ L, r ≠ []
  cl : ∀ r ∈ L, ∀ x ∈ r, ∀ q ∈ rowsAt W x, q ∈ r ∨ q ∈ out
theorem PartOk.step {W : WL} (w : Web W) (kl : W.length ≤ 900) {out S : List Int} {L : List (List Int)} (ok : PartOk W out S L) {p : Int} (hp : p ∈ keysOf' W) (z : p ∉ S) : PartOk W out (flF W 902 0 (S ++ [p]) [p]).1 (L ++ [sortI (flF W 902 0 (S ++ [p]) [p]).2]) := by
  have f := flF_ok w 902 0 (S ++ [p]) [p] (snoc_nodup ok.nd z) (snoc_sub ok.sk hp) (fun x hx => by rw [List.mem_singleton.mp hx]; exact hp)
  obtain ⟨N, e, a, b⟩ := flF_spec2 w kl 902 0 (S ++ [p]) [p] (snoc_nodup ok.nd z) (snoc_sub ok.sk hp) (fun x hx => by rw [List.mem_singleton.mp hx]; exact hp) (by simp) (fun i x hi => absurd hi (Nat.not_lt_zero _)) (by omega)
  rw [e] at f ⊢
  have fnd : (S ++ ([p] ++ N)).Nodup := by rw [← List.append_assoc]; exact f.nd
  have dis := (List.nodup_append.mp fnd).2.2
  refine ⟨f.nd, f.sk, ?_, fun r hr => ?_, fun r hr x hx q hq => ?_⟩
  · show (S ++ [p] ++ N).Perm (out ++ (L ++ [sortI ([p] ++ N)]).flatten)
    rw [List.append_assoc, List.flatten_append, ← List.append_assoc out]
    refine (ok.pm.append ?_)
    simp only [List.flatten_cons, List.flatten_nil, List.append_nil]
    exact (sortI_perm _).symm
  · rcases List.mem_append.mp hr with hr | hr
    · exact ok.ne r hr
    · rw [List.mem_singleton.mp hr]
      intro z2
      have := (sortI_perm ([p] ++ N)).length_eq
      rw [z2] at this
      simp at this
  · rcases List.mem_append.mp hr with hr | hr
    · exact ok.cl r hr x hx q hq
    · rw [List.mem_singleton.mp hr] at hx ⊢
      have hx' := (sortI_perm _).mem_iff.mp hx
      have hq' := b x hx' q hq
      rw [List.append_assoc] at hq'
      rcases List.mem_append.mp hq' with h | h
      · right
        have := ok.pm.mem_iff.mp h
        rcases List.mem_append.mp this with h2 | h2
        · exact h2
        · obtain ⟨r', hr', hq2⟩ := List.mem_flatten.mp h2
          have h3 := ok.cl r' hr' q hq2 x (rsymP w hq)
          have xS : x ∈ S := ok.pm.mem_iff.mpr (h3.elim (fun t => List.mem_append_right _ (List.mem_flatten.mpr ⟨r', hr', t⟩)) fun t => List.mem_append_left _ t)
          exact absurd rfl (dis x xS x hx')
      · exact .inl ((sortI_perm _).mem_iff.mpr h)
theorem ptF_spec2 {W : WL} (w : Web W) (kl : W.length ≤ 900) {out : List Int} : ∀ (ks S : List Int) (L : List (List Int)), (∀ p ∈ ks, p ∈ keysOf' W) → PartOk W out S L → PartOk W out (ptF W ks S L).1 (ptF W ks S L).2
  | [], S, L, _, ok => ok
  | p :: ks, S, L, hk, ok => by
    unfold ptF
    have hk' : ∀ q ∈ ks, q ∈ keysOf' W := fun q hq => hk q (List.mem_cons_of_mem _ hq)
    split
    · exact ptF_spec2 w kl ks S L hk' ok
    · rename_i z
      exact ptF_spec2 w kl ks _ _ hk' (ok.step w kl (hk p List.mem_cons_self) z)
theorem parts_spec {W : WL} (w : Web W) (kl : W.length ≤ 900) {out : List Int} (nd : out.Nodup) (sk : ∀ x ∈ out, x ∈ keysOf' W) : (out ++ (partsOf W out).flatten).Nodup ∧ (∀ x, x ∈ keysOf' W ↔ x ∈ out ++ (partsOf W out).flatten) ∧ (∀ r ∈ partsOf W out, r ≠ []) ∧ ∀ r ∈ partsOf W out, ∀ x ∈ r, ∀ q ∈ rowsAt W x, q ∈ r ∨ q ∈ out := by
  have hk : ∀ p ∈ sortI (keysOf' W), p ∈ keysOf' W := fun p hp => (sortI_perm _).mem_iff.mp hp
  have ok := ptF_spec2 w kl (out := out) (sortI (keysOf' W)) out [] hk ⟨nd, sk, by simp, by simp, by simp⟩
  obtain ⟨_, _, c⟩ := ptF_ok w (n := out.length) (sortI (keysOf' W)) out [] hk ⟨nd, sk, by simp, by simp⟩
  unfold partsOf
  exact ⟨ok.pm.nodup_iff.mp ok.nd, fun x => ⟨fun h => ok.pm.mem_iff.mp (c x ((sortI_perm _).mem_iff.mpr h)), fun h => ok.sk x (ok.pm.mem_iff.mpr h)⟩, ok.ne, ok.cl⟩
/-! each part of a flat web is flat -/
theorem inF_in {Q : Int → Prop} : ∀ (r S P : List Int), (∀ x ∈ P, Q x) → (∀ x ∈ r, Q x) → ∀ x ∈ (inF r S P).2, Q x
  | [], S, P, hp, _ => hp
  | q :: r, S, P, hp, hr => by
    unfold inF
    have hr' : ∀ x ∈ r, Q x := fun x hx => hr x (.tail _ hx)
    split
    · exact inF_in r S P hp hr'
    · refine inF_in r _ _ (fun x hx => ?_) hr'
      rcases List.mem_append.mp hx with h | h
      · exact hp x h
      · rw [List.mem_singleton.mp h]; exact hr q List.mem_cons_self
theorem flF_in {W : WL} {Q : Int → Prop} (hQ : ∀ x y, Q x → y ∈ rowsAt W x → Q y) : ∀ (k a : Nat) (S P : List Int), (∀ x ∈ P, Q x) → ∀ x ∈ (flF W k a S P).2, Q x
  | 0, _, _, _, hp => hp
  | k + 1, a, S, P, hp => by
    unfold flF
    cases e : P[a]? with
    | none => exact hp
    | some u => exact flF_in hQ k _ _ _ (inF_in _ _ _ hp fun x hx => hQ u x (hp u (List.mem_of_getElem? e)) hx)
theorem ptF_con {W : WL} : ∀ (ks S : List Int) (L : List (List Int)), (∀ r ∈ L, ∃ p ∈ r, ∀ x ∈ r, Rch W p x) → ∀ r ∈ (ptF W ks S L).2, ∃ p ∈ r, ∀ x ∈ r, Rch W p x
  | [], _, _, h => h
  | p :: ks, S, L, h => by
    unfold ptF
    split
    · exact ptF_con ks S L h
    · refine ptF_con ks _ _ fun r hr => ?_
      rcases List.mem_append.mp hr with q | q
      · exact h r q
      · rw [List.mem_singleton.mp q]
        obtain ⟨N, e⟩ := flF_new W 902 0 (S ++ [p]) [p]
        refine ⟨p, (sortI_perm _).mem_iff.mpr (by rw [e]; simp), fun x hx => ?_⟩
        exact flF_in (Q := fun x => Rch W p x) (fun _ _ h m => h.step m) 902 0 (S ++ [p]) [p] (fun y hy => by rw [List.mem_singleton.mp hy]; exact .refl) x ((sortI_perm _).mem_iff.mp hx)
theorem parts_con (W : WL) : ∀ r ∈ partsOf W [], ∃ p ∈ r, ∀ x ∈ r, Rch W p x := ptF_con _ _ _ fun _ h => nomatch h
theorem sum_split {β : Type} (f : β → Int) : ∀ (Ps : List (List Int)) (L : List β), Ps.flatten.Nodup → (∀ c ∈ L, f c ∈ Ps.flatten) → (Ps.map fun r => (L.filter fun c => decide (f c ∈ r)).length).sum = L.length
  | [], L, _, h => by
    cases L with
    | nil => rfl
    | cons c L => exact nomatch h c List.mem_cons_self
  | r :: Ps, L, nd, h => by
    rw [List.flatten_cons] at nd
    have n1 := List.nodup_append.mp nd
    have e := List.length_eq_countP_add_countP (fun c : β => decide (f c ∈ r)) (l := L)
    rw [List.countP_eq_length_filter, List.countP_eq_length_filter] at e
    have ih := sum_split f Ps (L.filter fun c => decide ¬decide (f c ∈ r) = true) n1.2.1 fun c hc => by
      have q := List.mem_filter.mp hc
      have := h c q.1
      rw [List.flatten_cons, List.mem_append] at this
      exact this.resolve_left (by simpa using q.2)
    rw [List.map_cons, List.sum_cons, e]
    congr 1
    rw [← ih]
    congr 1
    refine List.map_congr_left fun r' hr' => ?_
    rw [List.filter_filter]
    congr 1
    refine List.filter_congr fun c _ => ?_
    by_cases q : f c ∈ r'
    · have : f c ∉ r := fun z => n1.2.2 _ z _ (List.mem_flatten.mpr ⟨r', hr', q⟩) rfl
      simp [q, this]
    · simp [q]
theorem meet_len : ∀ (Ps : List (List Int)) (R : List Int), Ps.flatten.Nodup → (∀ r ∈ Ps, ∃ x ∈ r, x ∈ R) → Ps.length ≤ R.length
  | [], R, _, _ => Nat.zero_le _
  | r :: Ps, R, nd, h => by
    rw [List.flatten_cons] at nd
    have n1 := List.nodup_append.mp nd
    obtain ⟨x, hx, hR⟩ := h r List.mem_cons_self
    have ih := meet_len Ps (R.erase x) n1.2.1 fun r' hr' => by
      obtain ⟨y, hy, hy2⟩ := h r' (.tail _ hr')
      exact ⟨y, hy, (List.mem_erase_of_ne fun z => n1.2.2 x hx y (List.mem_flatten.mpr ⟨r', hr', hy⟩) z.symm).mpr hy2⟩
    rw [List.length_erase_of_mem hR] at ih
    have := List.length_pos_of_mem hR
    rw [List.length_cons]
    omega
theorem sum_eq_each {β : Type} (f g : β → Nat) : ∀ (l : List β), (∀ x ∈ l, f x ≤ g x) → (l.map g).sum ≤ (l.map f).sum → ∀ x ∈ l, f x = g x
  | [], _, _ => fun _ h => nomatch h
  | y :: l, h, s => by
    have h' : ∀ x ∈ l, f x ≤ g x := fun x hx => h x (.tail _ hx)
    have hy := h y List.mem_cons_self
    have le : ∀ m : List β, (∀ x ∈ m, f x ≤ g x) → (m.map f).sum ≤ (m.map g).sum := fun m => by
      induction m with
      | nil => intro _; exact Nat.le_refl _
      | cons z m ih =>
        intro hm
        have a := hm z List.mem_cons_self
        have b := ih fun x hx => hm x (.tail _ hx)
        rw [List.map_cons, List.sum_cons, List.map_cons, List.sum_cons]
        omega
    have l1 := le l h'
    rw [List.map_cons, List.sum_cons, List.map_cons, List.sum_cons] at s
    intro x hx
    rcases List.mem_cons.mp hx with rfl | hx
    · omega
    · exact sum_eq_each f g l h' (by omega) x hx
theorem sum_add {β : Type} (f g : β → Nat) : ∀ l : List β, (l.map fun x => f x + g x).sum = (l.map f).sum + (l.map g).sum
  | [] => rfl
  | x :: l => by
    rw [List.map_cons, List.sum_cons, List.map_cons, List.sum_cons, List.map_cons, List.sum_cons, sum_add f g l]; omega
theorem sum_mul {β : Type} (f : β → Nat) (k : Nat) : ∀ l : List β, (l.map fun x => k * f x).sum = k * (l.map f).sum
  | [] => rfl
  | x :: l => by
    rw [List.map_cons, List.sum_cons, List.map_cons, List.sum_cons, sum_mul f k l, Nat.mul_add]
theorem sum_const {β : Type} (k : Nat) : ∀ l : List β, (l.map fun _ => k).sum = k * l.length
  | [] => rfl
  | x :: l => by rw [List.map_cons, List.sum_cons, sum_const k l, List.length_cons, Nat.mul_succ]; omega
/-! ### a closed set of points -/
section
variable {W : WL} (w : Web W) {r : List Int} (nd : r.Nodup) (cl : ∀ x ∈ r, ∀ q ∈ rowsAt W x, q ∈ r)
include w cl
theorem part_rows {u : Int} (hu : u ∈ r) : rowsAt (withF W r r) u = rowsAt W u := by
  show (rowOf (withF W r r) u).getD [] = _
  rw [rowOf_withF, if_pos hu]
  exact List.filter_eq_self.mpr fun q hq => decide_eq_true (cl u hu q hq)
theorem part_mem {u v : Int} : v ∈ rowsAt (withF W r r) u ↔ u ∈ r ∧ v ∈ rowsAt W u := by
  constructor
  · intro h
    have hu : u ∈ r := by have := rowsAt_key h; rwa [withF_keys] at this
    exact ⟨hu, by rwa [part_rows w cl hu] at h⟩
  · exact fun h => by rw [part_rows w cl h.1]; exact h.2
include nd
theorem part_steps : ((stepsOf W).filter fun x => decide (x.1 ∈ r)).Perm (stepsOf (withF W r r)) := by
  refine (List.perm_ext_iff_of_nodup ((steps_nodup w).filter _) (steps_nodup (withF_web w nd))).mpr fun x => ?_
  obtain ⟨a, c⟩ := x
  rw [List.mem_filter, mem_st, mem_st, part_mem w cl, decide_eq_true_eq]
  exact And.comm
omit nd
theorem part_behind {x : Int × Int} (h : x ∈ stepsOf W) (h1 : x.1 ∈ r) : behindF (withF W r r) x = behindF W x := by
  obtain ⟨a, c⟩ := x
  unfold behindF
  rw [part_rows w cl (cl a h1 c (mem_st.mp h))]
theorem walk_in {z : Int × Int} : ∀ (T : List (Int × Int)), (∀ x ∈ T, x ∈ stepsOf W) → Pth (behindF W) T z → (T.headD z).1 ∈ r → ∀ x ∈ T, x.1 ∈ r
  | [], _, _, _ => fun _ h => nomatch h
  | x :: t, hT, p, h => by
    have h1 : x.1 ∈ r := h
    have h2 : x.2 ∈ r := cl x.1 h1 x.2 (mem_st.mp (hT x List.mem_cons_self))
    intro y hy
    rcases List.mem_cons.mp hy with rfl | hy
    · exact h1
    · exact walk_in t (fun y hy => hT y (.tail _ hy)) p.2 (by rw [← p.1]; exact h2) y hy
theorem cyc_in {c : List (Int × Int)} (hc : Cyc (behindF W) c) (hs : ∀ x ∈ c, x ∈ stepsOf W) {y : Int × Int} (hy : y ∈ c) (h1 : y.1 ∈ r) : ∀ x ∈ c, x.1 ∈ r := fun x hx => by
  obtain ⟨t, p, pm⟩ := hc.turn hy
  exact walk_in w cl (y :: t) (fun z hz => hs z (pm.mem_iff.mpr hz)) p h1 x (pm.mem_iff.mp hx)
def topI (c : List (Int × Int)) : Int := (c.headD (0, 0)).1
omit w cl in
theorem top_mem {c : List (Int × Int)} (h : Cyc (behindF W) c) : ∃ x ∈ c, topI c = x.1 := by
  obtain ⟨x, t, rfl, _⟩ := h
  exact ⟨x, List.mem_cons_self, rfl⟩
theorem filt_flat : ∀ (L : List (List (Int × Int))), (∀ c ∈ L, Cyc (behindF W) c ∧ ∀ x ∈ c, x ∈ stepsOf W) → (L.filter fun c => decide (topI c ∈ r)).flatten = L.flatten.filter fun x => decide (x.1 ∈ r)
  | [], _ => rfl
  | c :: L, h => by
    have ih := filt_flat L fun k hk => h k (.tail _ hk)
    obtain ⟨hc, hs⟩ := h c List.mem_cons_self
    obtain ⟨y, hy, ey⟩ := top_mem (W := W) hc
    rw [List.flatten_cons, List.filter_append, ← ih]
    by_cases q : topI c ∈ r
    · rw [List.filter_cons_of_pos (by simpa using q), List.flatten_cons]
      congr 1
      exact (List.filter_eq_self.mpr fun x hx => decide_eq_true (cyc_in w cl hc hs hy (ey ▸ q) x hx)).symm
    · rw [List.filter_cons_of_neg (by simpa using q)]
      have : (c.filter fun x => decide (x.1 ∈ r)) = [] := List.filter_eq_nil_iff.mpr fun x hx => by
        simp only [decide_eq_true_eq]
        exact fun z => q (ey ▸ cyc_in w cl hc hs hx z y hy)
      rw [this]; rfl
include nd
theorem part_cov {L : List (List (Int × Int))} (c : Cov (behindF W) (stepsOf W) L) : Cov (behindF (withF W r r)) (stepsOf (withF W r r)) (L.filter fun c => decide (topI c ∈ r)) := by
  have hL : ∀ k ∈ L, Cyc (behindF W) k ∧ ∀ x ∈ k, x ∈ stepsOf W := fun k hk => ⟨c.cyc k hk, fun x hx => c.perm.mem_iff.mp (List.mem_flatten.mpr ⟨k, hk, hx⟩)⟩
  refine ⟨fun k hk => ?_, ?_⟩
  · have q := List.mem_filter.mp hk
    obtain ⟨hc, hs⟩ := hL k q.1
    obtain ⟨y, hy, ey⟩ := top_mem (W := W) hc
    exact cyc_congr (fun x hx => part_behind w cl (hs x hx) (cyc_in w cl hc hs hy (ey ▸ of_decide_eq_true q.2) x hx)) hc
  · rw [filt_flat w cl L hL]
    exact (c.perm.filter _).trans (part_steps w nd cl)
end
theorem part_faces {W : WL} (w : Web W) {r : List Int} (nd : r.Nodup) (cl : ∀ x ∈ r, ∀ q ∈ rowsAt W x, q ∈ r) {L : List (List (Int × Int))} (c : Cov (behindF W) (stepsOf W) L) : (facesOf (withF W r r)).length = (L.filter fun c => decide (topI c ∈ r)).length := by
  have wv := withF_web w nd
  obtain ⟨L', c', e⟩ := faces_cov wv
  rw [e, List.length_map]
  exact cov_len _ (steps_nodup wv) c' (part_cov w nd cl c)
theorem part_rch {W : WL} (w : Web W) {r : List Int} (cl : ∀ x ∈ r, ∀ q ∈ rowsAt W x, q ∈ r) {p x : Int} (hp : p ∈ r) (h : Rch W p x) : x ∈ r ∧ Rch (withF W r r) p x := by
  induction h with
  | refl => exact ⟨hp, .refl⟩
  | step _ m ih => exact ⟨cl _ ih.1 _ m, ih.2.step ((part_mem w cl).mpr ⟨ih.1, m⟩)⟩
theorem rch_row {W : WL} (w : Web W) {p x : Int} (h : Rch W p x) (ne : p ≠ x) : rowsAt W x ≠ [] := by
  cases h with
  | refl => exact absurd rfl ne
  | step _ m =>
    intro z
    have := rowsS w m
    rw [z] at this; cases this
theorem two_ne {r : List Int} (nd : r.Nodup) (l : 2 ≤ r.length) (x : Int) : ∃ y ∈ r, y ≠ x := by
  match r, nd, l with
  | a :: b :: t, nd, _ =>
    by_cases q : a = x
    · refine ⟨b, by simp, fun z => ?_⟩
      rw [List.nodup_cons] at nd
      exact nd.1 (by rw [q, ← z]; simp)
    · exact ⟨a, by simp, q⟩
theorem part_iso {W : WL} (w : Web W) {r : List Int} (nd : r.Nodup) (cl : ∀ x ∈ r, ∀ q ∈ rowsAt W x, q ∈ r) (l : 2 ≤ r.length) {p : Int} (hp : p ∈ r) (co : ∀ x ∈ r, Rch W p x) : isoN (withF W r r) = 0 := by
  unfold isoN
  rw [withF_keys, List.length_eq_zero_iff, List.filter_eq_nil_iff]
  intro x hx
  rw [part_rows w cl hx, List.isEmpty_iff]
  by_cases q : p = x
  · subst q
    obtain ⟨y, hy, ny⟩ := two_ne nd l p
    exact rch_row w ((co y hy).symm w) ny
  · exact rch_row w (co x hx) q
theorem isoN_split {W : WL} (w : Web W) (Ps : List (List Int)) (pm : Ps.flatten.Perm (keysOf' W)) (cl : ∀ r ∈ Ps, ∀ x ∈ r, ∀ q ∈ rowsAt W x, q ∈ r) : (Ps.map fun r => isoN (withF W r r)).sum = isoN W := by
  have nd : Ps.flatten.Nodup := pm.nodup_iff.mpr w.nd
  have := sum_split (fun x : Int => x) Ps ((keysOf' W).filter fun p => (rowsAt W p).isEmpty) nd fun c hc => pm.mem_iff.mpr (List.mem_filter.mp hc).1
  unfold isoN
  rw [← this]
  congr 1
  refine List.map_congr_left fun r hr => ?_
  rw [withF_keys, List.filter_filter]
  have nr : r.Nodup := (List.sublist_flatten_of_mem hr).nodup nd
  refine List.Perm.length_eq ((List.perm_ext_iff_of_nodup (nr.filter _) (w.nd.filter _)).mpr fun x => ?_)
  simp only [List.mem_filter, Bool.and_eq_true, decide_eq_true_eq]
  constructor
  · intro h
    have := part_rows w (cl r hr) h.1
    rw [this] at h
    exact ⟨pm.mem_iff.mp (List.mem_flatten.mpr ⟨r, hr, h.1⟩), h.1, h.2⟩
  · intro h
    have := part_rows w (cl r hr) h.2.1
    rw [this]
    exact ⟨h.2.1, h.2.2⟩
theorem flat_parts {W : WL} (w : Web W) (kl : W.length ≤ 900) (f : Flt W) : ∀ r ∈ partsOf W [], flatB W r = true := by
  obtain ⟨nf, mf, ne, cl0⟩ := parts_spec w kl (out := []) List.nodup_nil (by simp)
  rw [List.nil_append] at nf
  have cl : ∀ r ∈ partsOf W [], ∀ x ∈ r, ∀ q ∈ rowsAt W x, q ∈ r := fun r hr x hx q hq => (cl0 r hr x hx q hq).resolve_right (by simp)
  have con := parts_con W
  have pm : (partsOf W []).flatten.Perm (keysOf' W) := (List.perm_ext_iff_of_nodup nf w.nd).mpr fun x => by rw [mf x, List.nil_append]
  generalize partsOf W [] = Ps at nf cl con pm
  obtain ⟨L, R, c, s, le⟩ := f
  have ndr : ∀ r ∈ Ps, r.Nodup := fun r hr => (List.sublist_flatten_of_mem hr).nodup nf
  have hL : ∀ k ∈ L, topI k ∈ Ps.flatten := fun k hk => by
    obtain ⟨y, hy, ey⟩ := top_mem (W := W) (c.cyc k hk)
    have hs := c.perm.mem_iff.mp (List.mem_flatten.mpr ⟨k, hk, hy⟩)
    rw [ey]
    exact pm.mem_iff.mpr (rowsAt_key (mem_st.mp (show (y.1, y.2) ∈ stepsOf W from hs)))
  have sL := sum_split topI Ps L nf hL
  have sD := sum_split (fun x : Int × Int => x.1) Ps (stepsOf W) nf fun x hx => pm.mem_iff.mpr (rowsAt_key (mem_st.mp (show (x.1, x.2) ∈ stepsOf W from hx)))
  have sK := sum_split (fun x : Int => x) Ps (keysOf' W) nf fun x hx => pm.mem_iff.mpr hx
  have sI := isoN_split w Ps pm cl
  have rP := meet_len Ps R nf fun r hr => by
    obtain ⟨p, hp, _⟩ := con r hr
    obtain ⟨q, hq, k⟩ := s p (pm.mem_iff.mp (List.mem_flatten.mpr ⟨r, hr, hp⟩))
    exact ⟨q, (part_rch w (cl r hr) hp (k.symm w)).1, hq⟩
  rw [keys_len] at sK
  have each := sum_eq_each (fun r => 2 * (((keysOf' W).filter fun x => decide (x ∈ r)).length + ((L.filter fun c => decide (topI c ∈ r)).length + isoN (withF W r r)))) (fun r => ((stepsOf W).filter fun x => decide (x.1 ∈ r)).length + 4) Ps (fun r hr => by
    have nr := ndr r hr
    have wv := withF_web w nr
    obtain ⟨p, hp, co⟩ := con r hr
    have sp : Spn (withF W r r) [p] := fun x hx => ⟨p, by simp, (part_rch w (cl r hr) hp (co x (by rwa [withF_keys] at hx))).2⟩
    have := eul_le _ wv (Nat.le_refl _) (part_cov w nr (cl r hr) c) sp
    have e1 := (part_steps w nr (cl r hr)).length_eq
    have e2 : ((keysOf' W).filter fun x => decide (x ∈ r)).length = (withF W r r).length := by
      rw [← keys_len (withF W r r), withF_keys]
      refine List.Perm.length_eq ((List.perm_ext_iff_of_nodup (w.nd.filter _) nr).mpr fun x => ?_)
      simp only [List.mem_filter, decide_eq_true_eq]
      exact ⟨fun h => h.2, fun h => ⟨pm.mem_iff.mp (List.mem_flatten.mpr ⟨r, hr, h⟩), h⟩⟩
    simp only [List.length_singleton] at this
    rw [e1, e2]
    omega) (by
    rw [sum_add (fun r => ((stepsOf W).filter fun x => decide (x.1 ∈ r)).length) (fun _ => 4), sD, sum_const, sum_mul (fun r => ((keysOf' W).filter fun x => decide (x ∈ r)).length + ((L.filter fun c => decide (topI c ∈ r)).length + isoN (withF W r r))) 2,
      sum_add (fun r => ((keysOf' W).filter fun x => decide (x ∈ r)).length) (fun r => (L.filter fun c => decide (topI c ∈ r)).length + isoN (withF W r r)), sK, sum_add (fun r => (L.filter fun c => decide (topI c ∈ r)).length) (fun r => isoN (withF W r r)), sL, sI]
    omega)
  intro r hr
  have nr := ndr r hr
  have wv := withF_web w nr
  have er := each r hr
  have e1 := (part_steps w nr (cl r hr)).length_eq
  have e2 : ((keysOf' W).filter fun x => decide (x ∈ r)).length = r.length := by
    refine List.Perm.length_eq ((List.perm_ext_iff_of_nodup (w.nd.filter _) nr).mpr fun x => ?_)
    simp only [List.mem_filter, decide_eq_true_eq]
    exact ⟨fun h => h.2, fun h => ⟨pm.mem_iff.mp (List.mem_flatten.mpr ⟨r, hr, h⟩), h⟩⟩
  have e3 := part_faces w nr (cl r hr) c
  have e4 := steps_twice wv
  obtain ⟨p, hp, co⟩ := con r hr
  have l1 := List.length_pos_of_mem hp
  unfold flatB
  by_cases q : r.length = 1
  · have : ((r.length : Int) == 1) = true := by rw [q]; rfl
    rw [this]; rfl
  · have io := part_iso w nr (cl r hr) (by omega) hp co
    rw [io, e1, e2] at er
    have : ((r.length : Int) - ((tiesOf (withF W r r)).length : Nat) + ((facesOf (withF W r r)).length : Nat) == 2) = true := by
      rw [beq_iff_eq, e3]
      omega
    rw [this, Bool.or_true]

/-! flatness as a count, of each part, and of the whole -/
theorem filt_split {α : Type} (p : α → Bool) : ∀ l : List α, (l.filter p).length + (l.filter fun x => !p x).length = l.length
  | [] => rfl
  | x :: l => by
    have ih := filt_split p l
    cases h : p x with
    | true => rw [List.filter_cons_of_pos h, List.filter_cons_of_neg (by simp [h]), List.length_cons, List.length_cons]; omega
    | false => rw [List.filter_cons_of_neg (by simp [h]), List.filter_cons_of_pos (by simp [h]), List.length_cons, List.length_cons]; omega
theorem pick_all (W : WL) : ∀ Ps : List (List Int), (∀ r ∈ Ps, ∃ p ∈ r, ∀ x ∈ r, Rch W p x) → ∃ R : List Int, R.length = Ps.length ∧ ∀ r ∈ Ps, ∃ p ∈ R, p ∈ r ∧ ∀ x ∈ r, Rch W p x
  | [], _ => ⟨[], rfl, fun _ h => nomatch h⟩
  | r :: Ps, h => by
    obtain ⟨p, hp, k⟩ := h r List.mem_cons_self
    obtain ⟨R, e, a⟩ := pick_all W Ps fun r hr => h r (.tail _ hr)
    refine ⟨p :: R, by rw [List.length_cons, List.length_cons, e], fun r' hr' => ?_⟩
    rcases List.mem_cons.mp hr' with rfl | hr'
    · exact ⟨p, List.mem_cons_self, hp, k⟩
    · obtain ⟨q, hq, z⟩ := a r' hr'
      exact ⟨q, .tail _ hq, z⟩
structure PartsOk (W : WL) (Ps : List (List Int)) : Prop where
  nf : Ps.flatten.Nodup
  pm : Ps.flatten.Perm (keysOf' W)
  ne : ∀ r ∈ Ps, r ≠ []
  cl : ∀ r ∈ Ps, ∀ x ∈ r, ∀ q ∈ rowsAt W x, q ∈ r
  con : ∀ r ∈ Ps, ∃ p ∈ r, ∀ x ∈ r, Rch W p x
theorem parts_ok {W : WL} (w : Web W) (kl : W.length ≤ 900) : PartsOk W (partsOf W []) := by
  obtain ⟨nf, mf, ne, cl0⟩ := parts_spec w kl (out := []) List.nodup_nil (by simp)
  rw [List.nil_append] at nf
  exact ⟨nf, (List.perm_ext_iff_of_nodup nf w.nd).mpr fun x => by rw [mf x, List.nil_append], ne, fun r hr x hx q hq => (cl0 r hr x hx q hq).resolve_right (by simp), parts_con W⟩
theorem PartsOk.heads {W : WL} {Ps : List (List Int)} (o : PartsOk W Ps) : ∃ R, R.length = Ps.length ∧ Spn W R := by
  obtain ⟨R, e, a⟩ := pick_all W Ps o.con
  refine ⟨R, e, fun x hx => ?_⟩
  obtain ⟨r, hr, hxr⟩ := List.mem_flatten.mp (o.pm.mem_iff.mpr hx)
  obtain ⟨p, hp, _, k⟩ := a r hr
  exact ⟨p, hp, k x hxr⟩
theorem PartsOk.le {W : WL} (w : Web W) {Ps : List (List Int)} (o : PartsOk W Ps) {R : List Int} (s : Spn W R) : Ps.length ≤ R.length :=
  meet_len Ps R o.nf fun r hr => by
    obtain ⟨p, hp, _⟩ := o.con r hr
    obtain ⟨q, hq, k⟩ := s p (o.pm.mem_iff.mp (List.mem_flatten.mpr ⟨r, hr, hp⟩))
    exact ⟨q, (part_rch w (o.cl r hr) hp (k.symm w)).1, hq⟩
theorem faces_len {W : WL} (w : Web W) {L : List (List (Int × Int))} (c : Cov (behindF W) (stepsOf W) L) : (facesOf W).length = L.length := by
  obtain ⟨L', c', e⟩ := faces_cov w
  rw [e, List.length_map]
  exact cov_len L' (steps_nodup w) c' c
/-- Euler's count of the whole -/
theorem flt_count {W : WL} (w : Web W) (kl : W.length ≤ 900) : Flt W ↔ W.length + (facesOf W).length + isoN W = (tiesOf W).length + 2 * (partsOf W []).length := by
  have o := parts_ok w kl
  have st := steps_twice w
  obtain ⟨L0, c0, _⟩ := faces_cov w
  have fl := faces_len w c0
  obtain ⟨R0, e0, s0⟩ := o.heads
  constructor
  · rintro ⟨L, R, c, s, le⟩
    have a := eul_le _ w (Nat.le_refl _) c0 s0
    have b := o.le w s
    have d := faces_len w c
    omega
  · intro h
    exact ⟨L0, R0, c0, s0, by omega⟩
theorem one_iso {W : WL} (w : Web W) {r : List Int} (cl : ∀ x ∈ r, ∀ q ∈ rowsAt W x, q ∈ r) (l : r.length = 1) : isoN (withF W r r) = 1 := by
  match r, l with
  | [p], _ =>
    have e : rowsAt (withF W [p] [p]) p = [] := by
      refine List.eq_nil_iff_forall_not_mem.mpr fun q hq => ?_
      have hq := ((part_mem w cl).mp hq).2
      have := cl p List.mem_cons_self q hq
      rw [List.mem_singleton] at this
      exact (rowsAt_ok w p).2 (this ▸ hq)
    unfold isoN
    rw [withF_keys, List.filter_cons_of_pos (by rw [e]; rfl)]; rfl
theorem PartsOk.iso {W : WL} (w : Web W) {Ps : List (List Int)} (o : PartsOk W Ps) : isoN W = (Ps.filter fun r => decide (r.length = 1)).length := by
  have cl := o.cl
  have ne := o.ne
  have ndr : ∀ r ∈ Ps, r.Nodup := fun r hr => (List.sublist_flatten_of_mem hr).nodup o.nf
  rw [← isoN_split w Ps o.pm cl]
  have con := o.con
  clear o
  induction Ps with
  | nil => rfl
  | cons r Ps ih =>
    have ih := ih (fun r hr => cl r (.tail _ hr)) (fun r hr => ne r (.tail _ hr)) (fun r hr => ndr r (.tail _ hr)) fun r hr => con r (.tail _ hr)
    have hr : r ∈ r :: Ps := List.mem_cons_self
    rw [List.map_cons, List.sum_cons, ih]
    by_cases l : r.length = 1
    · rw [List.filter_cons_of_pos (by simpa using l), List.length_cons, one_iso w (cl r hr) l]; omega
    · obtain ⟨p, hp, k⟩ := con r hr
      have l1 := List.length_pos_iff.mpr (ne r hr)
      rw [List.filter_cons_of_neg (by simpa using l), part_iso w (ndr r hr) (cl r hr) (by omega) hp k]; omega
theorem flt_all {W : WL} (w : Web W) (kl : W.length ≤ 900) : (partsOf W []).all (flatB W) = true ↔ Flt W := by
  refine ⟨fun h => ?_, fun f => List.all_eq_true.mpr (flat_parts w kl f)⟩
  rw [flt_count w kl]
  have o := parts_ok w kl
  obtain ⟨L, c, _⟩ := faces_cov w
  have fl := faces_len w c
  have st := steps_twice w
  rw [List.all_eq_true] at h
  have pm := o.pm
  have nf := o.nf
  have cl := o.cl
  have ndr : ∀ r ∈ partsOf W [], r.Nodup := fun r hr => (List.sublist_flatten_of_mem hr).nodup nf
  have hL : ∀ k ∈ L, topI k ∈ (partsOf W []).flatten := fun k hk => by
    obtain ⟨y, hy, ey⟩ := top_mem (W := W) (c.cyc k hk)
    have hs := c.perm.mem_iff.mp (List.mem_flatten.mpr ⟨k, hk, hy⟩)
    rw [ey]
    exact pm.mem_iff.mpr (rowsAt_key (mem_st.mp (show (y.1, y.2) ∈ stepsOf W from hs)))
  have sL := sum_split topI (partsOf W []) L nf hL
  have sD := sum_split (fun x : Int × Int => x.1) (partsOf W []) (stepsOf W) nf fun x hx => pm.mem_iff.mpr (rowsAt_key (mem_st.mp (show (x.1, x.2) ∈ stepsOf W from hx)))
  have sK := sum_split (fun x : Int => x) (partsOf W []) (keysOf' W) nf fun x hx => pm.mem_iff.mpr hx
  have sI := isoN_split w (partsOf W []) pm cl
  rw [keys_len] at sK
  have each : ∀ r ∈ partsOf W [], 2 * (((keysOf' W).filter fun x => decide (x ∈ r)).length + ((L.filter fun c => decide (topI c ∈ r)).length + isoN (withF W r r))) = ((stepsOf W).filter fun x => decide (x.1 ∈ r)).length + 4 := fun r hr => by
    have nr := ndr r hr
    have e1 := (part_steps w nr (cl r hr)).length_eq
    have e2 : ((keysOf' W).filter fun x => decide (x ∈ r)).length = r.length := by
      refine List.Perm.length_eq ((List.perm_ext_iff_of_nodup (w.nd.filter _) nr).mpr fun x => ?_)
      simp only [List.mem_filter, decide_eq_true_eq]
      exact ⟨fun h => h.2, fun h => ⟨pm.mem_iff.mp (List.mem_flatten.mpr ⟨r, hr, h⟩), h⟩⟩
    have e3 := part_faces w nr (cl r hr) c
    have e4 := steps_twice (withF_web w nr)
    have fb := h r hr
    unfold flatB at fb
    rw [Bool.or_eq_true, beq_iff_eq, beq_iff_eq] at fb
    by_cases q : r.length = 1
    · have io := one_iso w (cl r hr) q
      have z : (stepsOf (withF W r r)).length = 0 := by
        rw [List.length_eq_zero_iff, List.eq_nil_iff_forall_not_mem]
        rintro ⟨a, b⟩ hab
        have hb := (part_mem w (cl r hr)).mp (mem_st.mp hab)
        have hb2 := cl r hr a hb.1 b hb.2
        match r, q with
        | [p], _ =>
          rw [List.mem_singleton] at hb hb2
          have h2 := hb.2
          rw [show b = a from hb2.trans hb.1.symm] at h2
          exact (rowsAt_ok w a).2 h2
      have z2 : (L.filter fun c => decide (topI c ∈ r)).length = 0 := by
        have fs := faces_sum (withF_web w nr)
        rw [z] at fs
        have := len_flat _ (faces_ne (withF_web w nr))
        omega
      omega
    · obtain ⟨p, hp, co⟩ := o.con r hr
      have l1 := List.length_pos_of_mem hp
      have io := part_iso w nr (cl r hr) (by omega) hp co
      rw [e3] at fb
      omega
  have tot : ((partsOf W []).map fun r => 2 * (((keysOf' W).filter fun x => decide (x ∈ r)).length + ((L.filter fun c => decide (topI c ∈ r)).length + isoN (withF W r r)))).sum = ((partsOf W []).map fun r => ((stepsOf W).filter fun x => decide (x.1 ∈ r)).length + 4).sum := by
    congr 1
    exact List.map_congr_left each
  rw [sum_add (fun r => ((stepsOf W).filter fun x => decide (x.1 ∈ r)).length) (fun _ => 4), sD, sum_const, sum_mul (fun r => ((keysOf' W).filter fun x => decide (x ∈ r)).length + ((L.filter fun c => decide (topI c ∈ r)).length + isoN (withF W r r))) 2,
    sum_add (fun r => ((keysOf' W).filter fun x => decide (x ∈ r)).length) (fun r => (L.filter fun c => decide (topI c ∈ r)).length + isoN (withF W r r)), sK, sum_add (fun r => (L.filter fun c => decide (topI c ∈ r)).length) (fun r => isoN (withF W r r)), sL, sI] at tot
  omega


/-! flat webs within, without; lone points left out -/
theorem Cov.steps {α : Type} [DecidableEq α] {φ : α → α} {D D' : List α} {L : List (List α)} (c : Cov φ D L) (pm : D.Perm D') : Cov φ D' L := ⟨c.cyc, c.perm.trans pm⟩
theorem rch_mono {W V : WL} (h : ∀ u v, v ∈ rowsAt W u → v ∈ rowsAt V u) {a b : Int} (r : Rch W a b) : Rch V a b := by
  induction r with
  | refl => exact .refl
  | step _ m ih => exact ih.step (h _ _ m)
theorem step_keys {W : WL} (w : Web W) {x : Int × Int} (hx : x ∈ stepsOf W) : x.1 ∈ keysOf' W ∧ x.2 ∈ keysOf' W := by
  have h := mem_st.mp (show (x.1, x.2) ∈ stepsOf W from hx)
  exact ⟨rowsAt_key h, rowsAt_key (rowsS w h)⟩
/-! ### lone points left out -/
theorem Flt.same {V T : WL} (hv : Web V) (ht : Web T) (sub : ∀ p ∈ keysOf' V, p ∈ keysOf' T) (rows : ∀ p, rowsAt V p = rowsAt T p) (f : Flt T) : Flt V := by
  obtain ⟨L, R, c, s, le⟩ := f
  have eb : behindF V = behindF T := by
    funext x; unfold behindF; rw [rows]
  have ps : (stepsOf T).Perm (stepsOf V) := (List.perm_ext_iff_of_nodup (steps_nodup ht) (steps_nodup hv)).mpr fun x => by
    obtain ⟨a, b⟩ := x
    rw [mem_st, mem_st, rows]
  have c' : Cov (behindF V) (stepsOf V) L := by rw [eb]; exact c.steps ps
  have lone : ∀ p ∈ keysOf' T, p ∉ keysOf' V → rowsAt T p = [] := fun p _ h => by
    rw [← rows]
    refine List.eq_nil_iff_forall_not_mem.mpr fun q hq => h (rowsAt_key hq)
  have rr : ∀ {a b : Int}, Rch T a b → Rch V a b := fun h => rch_mono (fun u v m => by rw [rows]; exact m) h
  let D := (keysOf' T).filter fun p => !decide (p ∈ keysOf' V)
  have dn : D.Nodup := ht.nd.filter _
  have dR : ∀ p ∈ D, p ∈ R.filter fun p => !decide (p ∈ keysOf' V) := fun p hp => by
    have h := List.mem_filter.mp hp
    have hv : p ∉ keysOf' V := by simpa using h.2
    obtain ⟨r, hr, k⟩ := s p h.1
    have e : r = p := by
      cases k with
      | refl => rfl
      | step _ m =>
        have := rowsS ht m
        rw [lone p h.1 hv] at this; cases this
    rw [e] at hr
    exact List.mem_filter.mpr ⟨hr, h.2⟩
  have l1 := nodup_sub_len dn dR
  have l2 := filt_split (fun p => decide (p ∈ keysOf' V)) R
  have pk : (keysOf' T).Perm (keysOf' V ++ D) := (List.perm_ext_iff_of_nodup ht.nd (List.nodup_append.mpr ⟨hv.nd, dn, fun a ha b hb e => by
    have := (List.mem_filter.mp hb).2
    rw [← e] at this
    simp [ha] at this⟩)).mpr fun x => by
    rw [List.mem_append, List.mem_filter]
    by_cases h : x ∈ keysOf' V
    · simp [h, sub x h]
    · simp [h]
  have lk := pk.length_eq
  rw [List.length_append, keys_len, keys_len] at lk
  have io : isoN T = isoN V + D.length := by
    unfold isoN
    rw [(pk.filter _).length_eq, List.filter_append, List.length_append]
    congr 1
    · congr 1
      exact List.filter_congr fun p _ => by rw [rows]
    · congr 1
      refine List.filter_eq_self.mpr fun p hp => ?_
      have h := List.mem_filter.mp hp
      rw [lone p h.1 (by simpa using h.2)]; rfl
  have ls := ps.length_eq
  refine ⟨L, R.filter fun p => decide (p ∈ keysOf' V), c', fun x hx => ?_, by omega⟩
  obtain ⟨r, hr, k⟩ := s x (sub x hx)
  have k' := rr k
  exact ⟨r, List.mem_filter.mpr ⟨hr, decide_eq_true ((k'.symm hv).key hv hx)⟩, k'⟩
theorem Flt.within {W : WL} (w : Web W) (f : Flt W) {S : List Int} (nd : S.Nodup) (hk : ∀ p ∈ S, p ∈ keysOf' W) : Flt (withF W S S) := by
  have hs : ∀ u v : Int, (decide (u ∈ S) && decide (v ∈ S)) = (decide (v ∈ S) && decide (u ∈ S)) := fun u v => Bool.and_comm _ _
  have t := Flt.thin (P := fun u v => decide (u ∈ S) && decide (v ∈ S)) hs _ w (Nat.le_refl _) f
  refine t.same (withF_web w nd) (w.thin (fun u v => decide (u ∈ S) && decide (v ∈ S)) fun u v => hs u v) (fun p hp => ?_) fun p => ?_
  · rw [withF_keys] at hp
    rw [keys_map]; exact hk p hp
  · show (rowOf (withF W S S) p).getD [] = (rowOf (mapRows (fun u r => r.filter fun v => decide (u ∈ S) && decide (v ∈ S)) W) p).getD []
    rw [rowOf_withF, rowOf_map]
    by_cases h : p ∈ S
    · rw [if_pos h]
      unfold rowsAt
      cases rowOf W p <;> simp [h]
    · rw [if_neg h]
      cases rowOf W p <;> simp [h]
theorem Flt.without {W : WL} (w : Web W) (f : Flt W) (N : List (Int × Int)) : Flt (withoutW N W) :=
  Flt.thin (P := fun u v => !decide (nameOf u v ∈ N)) (fun u v => by rw [name_sym]) _ w (Nat.le_refl _) f

/-! webs with a point more, a point less, a tie more: what they are -/
theorem ltL {V : WL} (v : Web V) {k : Nat} (l : V.length ≤ k) : ∀ u r, rowOf V u = some r → r.length ≤ k := fun u r e => by
  have := sub_len (v.row u r e).1 (row_keys v e)
  rw [keys_len] at this; omega
def placeB (r : List Int) : Option Int → Bool
  | none => r.isEmpty
  | some a => decide (a ∈ r)
def rowB (r : List Int) (a : Option Int) (v : Int) : List Int := if r.isEmpty = true then [v] else ins r (a.getD 0) v
theorem place_or {r : List Int} {a : Option Int} (h : placeB r a = true) : (r = [] ∧ a = none) ∨ ∃ x, a = some x ∧ x ∈ r ∧ r ≠ [] := by
  cases a with
  | none => exact .inl ⟨List.isEmpty_iff.mp h, rfl⟩
  | some x => exact .inr ⟨x, rfl, of_decide_eq_true h, fun z => by have := of_decide_eq_true h; rw [z] at this; cases this⟩
section
variable {r : List Int} {a : Option Int} {v : Int} (h : placeB r a = true)
include h
theorem rowB_at : (r = [] ∧ a = none ∧ rowB r a v = [v]) ∨ ∃ x, a = some x ∧ x ∈ r ∧ rowB r a v = ins r x v := by
  rcases place_or h with ⟨rfl, rfl⟩ | ⟨x, rfl, hx, ne⟩
  · exact .inl ⟨rfl, rfl, rfl⟩
  · refine .inr ⟨x, rfl, hx, ?_⟩
    unfold rowB
    rw [if_neg (by simpa using ne)]; rfl
theorem mem_rowB (hv : v ∉ r) {x : Int} : x ∈ rowB r a v ↔ x ∈ r ∨ x = v := by
  rcases rowB_at (v := v) h with ⟨rfl, rfl, e⟩ | ⟨y, rfl, hy, e⟩
  · rw [e]; simp
  · rw [e, mem_ins hy hv]
theorem nodup_rowB (hv : v ∉ r) (nd : r.Nodup) : (rowB r a v).Nodup := by
  rcases rowB_at (v := v) h with ⟨rfl, rfl, e⟩ | ⟨y, rfl, hy, e⟩
  · rw [e]; simp
  · rw [e]; exact nodup_ins hy hv nd
end
def putW (W : WL) (u v : Int) (a b : Option Int) : WL := putRow (putRow W u (rowB (rowsAt W u) a v)) v (rowB (rowsAt W v) b u)
theorem putW_row (W : WL) (u v : Int) (a b : Option Int) (x : Int) : rowOf (putW W u v a b) x = if x = v then some (rowB (rowsAt W v) b u) else if x = u then some (rowB (rowsAt W u) a v) else rowOf W x := by
  unfold putW
  rw [rowOf_put, rowOf_put]
section
variable {W : WL} (w : Web W) {u v : Int} {a b : Option Int} (hu : u ∈ keysOf' W) (hv : v ∈ keysOf' W) (ne : u ≠ v) (nt : v ∉ rowsAt W u) (pa : placeB (rowsAt W u) a = true) (pb : placeB (rowsAt W v) b = true)
include hu hv
theorem putW_keys : keysOf' (putW W u v a b) = keysOf' W := by
  unfold putW
  rw [keys_put, keys_put, if_pos hu, if_pos hv]
theorem putW_len : (putW W u v a b).length = W.length := by rw [← keys_len, putW_keys hu hv, keys_len]
include w ne nt pa pb
theorem putW_rows (x : Int) : rowsAt (putW W u v a b) x = if x = v then rowB (rowsAt W v) b u else if x = u then rowB (rowsAt W u) a v else rowsAt W x := by
  show (rowOf (putW W u v a b) x).getD [] = _
  rw [putW_row]
  split
  · rfl
  · split <;> rfl
theorem nt' : u ∉ rowsAt W v := fun h => nt (rowsS w h)
theorem putW_mem {x y : Int} : y ∈ rowsAt (putW W u v a b) x ↔ y ∈ rowsAt W x ∨ (x = u ∧ y = v) ∨ (x = v ∧ y = u) := by
  have n2 := nt' w hu hv ne nt pa pb
  rw [putW_rows w hu hv ne nt pa pb]
  split
  · rename_i q; subst q
    rw [mem_rowB pb n2]
    exact ⟨fun h => h.elim .inl fun h => .inr (.inr ⟨rfl, h⟩), fun h => h.elim .inl fun h => h.elim (fun h => absurd h.1.symm ne) fun h => .inr h.2⟩
  · rename_i q
    split
    · rename_i q2; subst q2
      rw [mem_rowB pa nt]
      exact ⟨fun h => h.elim .inl fun h => .inr (.inl ⟨rfl, h⟩), fun h => h.elim .inl fun h => h.elim (fun h => .inr h.2) fun h => absurd h.1 ne⟩
    · rename_i q2
      exact ⟨.inl, fun h => h.elim id fun h => h.elim (fun h => absurd h.1 q2) fun h => absurd h.1 q⟩
theorem putW_web : Web (putW W u v a b) := by
  have n2 := nt' w hu hv ne nt pa pb
  have mem := fun {x y : Int} => putW_mem w hu hv ne nt pa pb (x := x) (y := y)
  refine ⟨by rw [putW_keys hu hv]; exact w.nd, fun x r e => ?_, fun x y r e hy => ?_⟩
  · have er : r = rowsAt (putW W u v a b) x := (rowsAt_of e).symm
    refine ⟨?_, fun h => ?_⟩
    · rw [er, putW_rows w hu hv ne nt pa pb]
      split
      · exact nodup_rowB pb n2 (rowsAt_ok w v).1
      · split
        · exact nodup_rowB pa nt (rowsAt_ok w u).1
        · exact (rowsAt_ok w x).1
    · rw [er, mem] at h
      rcases h with h | ⟨h1, h2⟩ | ⟨h1, h2⟩
      · exact (rowsAt_ok w x).2 h
      · exact ne (h1.symm.trans h2)
      · exact ne (h2.symm.trans h1)
  · have hm : y ∈ rowsAt (putW W u v a b) x := by rw [rowsAt_of e]; exact hy
    have hm2 : x ∈ rowsAt (putW W u v a b) y := by
      rw [mem] at hm ⊢
      rcases hm with h | ⟨h1, h2⟩ | ⟨h1, h2⟩
      · exact .inl (rowsS w h)
      · exact .inr (.inr ⟨h2, h1⟩)
      · exact .inr (.inl ⟨h2, h1⟩)
    obtain ⟨r', e'⟩ := mem_rowOf (rowsAt_key hm2)
    exact ⟨r', e', by rw [rowsAt_of e'] at hm2; exact hm2⟩
end
/-! what is put and dropped again -/
theorem wl_ext : ∀ (A B : WL), keysOf' A = keysOf' B → (keysOf' A).Nodup → (∀ u, u ∈ keysOf' A → rowOf A u = rowOf B u) → A = B
  | [], [], _, _, _ => rfl
  | [], q :: B, e, _, _ => by simp [keysOf'] at e
  | p :: A, [], e, _, _ => by simp [keysOf'] at e
  | p :: A, q :: B, e, nd, h => by
    have e2 : p.1 = q.1 ∧ keysOf' A = keysOf' B := by simpa [keysOf'] using e
    have n2 : p.1 ∉ keysOf' A ∧ (keysOf' A).Nodup := by
      have : (p.1 :: keysOf' A).Nodup := nd
      exact List.nodup_cons.mp this
    have h1 := h p.1 (by simp [keysOf'])
    have f1 : rowOf (p :: A) p.1 = some p.2 := by simp [rowOf]
    have f2 : rowOf (q :: B) p.1 = some q.2 := by simp [rowOf, e2.1]
    rw [f1, f2] at h1
    have h2 := Option.some.inj h1
    rw [wl_ext A B e2.2 n2.2 fun u hu => ?_, Prod.ext e2.1 h2]
    have ne : p.1 ≠ u := fun z => n2.1 (z ▸ hu)
    have := h u (by simp only [keysOf', List.map_cons, List.mem_cons]; exact .inr hu)
    have g1 : rowOf (p :: A) u = rowOf A u := by simp [rowOf, ne]
    have g2 : rowOf (q :: B) u = rowOf B u := by simp [rowOf, e2.1 ▸ ne]
    rw [← g1, ← g2, this]
theorem rows_ext {A B : WL} (ks : keysOf' A = keysOf' B) (nd : (keysOf' A).Nodup) (h : ∀ u ∈ keysOf' A, rowsAt A u = rowsAt B u) : A = B := wl_ext A B ks nd fun u hu => by
  obtain ⟨r, er⟩ := mem_rowOf hu
  obtain ⟨q, eq⟩ := mem_rowOf (ks ▸ hu)
  have := h u hu
  rw [rowsAt_of er, rowsAt_of eq] at this
  rw [er, eq, this]
theorem filt_rowB {r : List Int} {a : Option Int} {v : Int} (h : placeB r a = true) (hv : v ∉ r) : (rowB r a v).filter (fun q => !decide (q = v)) = r := by
  have keep : ∀ l : List Int, v ∉ l → l.filter (fun q => !decide (q = v)) = l := fun l hl => List.filter_eq_self.mpr fun x hx => by simp; exact fun q => hl (q ▸ hx)
  rcases rowB_at (v := v) h with ⟨rfl, rfl, e⟩ | ⟨y, rfl, hy, e⟩
  · rw [e]; simp
  · rw [e]
    obtain ⟨l1, l2, rfl, n1, _⟩ := split_at hy
    rw [ins_app n1]
    have a1 : v ∉ l1 := fun q => hv (by simp [q])
    have a2 : v ∉ l2 := fun q => hv (by simp [q])
    have a3 : v ≠ y := fun q => hv (by simp [q])
    rw [List.filter_append, List.filter_cons_of_pos (by simpa using Ne.symm a3), List.filter_cons_of_neg (by simp), keep l1 a1, keep l2 a2]
theorem put_cut {W : WL} (w : Web W) {u v : Int} {a b : Option Int} (hu : u ∈ keysOf' W) (hv : v ∈ keysOf' W) (ne : u ≠ v) (nt : v ∉ rowsAt W u) (pa : placeB (rowsAt W u) a = true) (pb : placeB (rowsAt W v) b = true) : cutW (putW W u v a b) v u = W := by
  have w' := putW_web w hu hv ne nt pa pb
  have n2 : u ∉ rowsAt W v := fun h => nt (rowsS w h)
  have rows := putW_rows w hu hv ne nt pa pb
  refine rows_ext (by rw [cut_keys, putW_keys hu hv]) (by rw [cut_keys, putW_keys hu hv]; exact w.nd) fun x _ => ?_
  by_cases q1 : x = v
  · subst q1
    rw [cut_row (Ne.symm ne), rows, if_pos rfl, filt_rowB pb n2]
  · by_cases q2 : x = u
    · subst q2
      rw [cut_sym, cut_row ne, rows, if_neg ne, if_pos rfl, filt_rowB pa nt]
    · rw [cut_other q1 q2, rows, if_neg q1, if_neg q2]
/-! a tie more: what becomes of the faces -/
section
variable {W : WL} (w : Web W) {u v : Int} {a b : Option Int} (hu : u ∈ keysOf' W) (hv : v ∈ keysOf' W) (ne : u ≠ v) (nt : v ∉ rowsAt W u) (pa : placeB (rowsAt W u) a = true) (pb : placeB (rowsAt W v) b = true)
include w hu hv ne nt pa pb
theorem put_stepsP : (stepsOf (putW W u v a b)).Perm ((u, v) :: (v, u) :: stepsOf W) := by
  have v1 := putW_web w hu hv ne nt pa pb
  have m : v ∈ rowsAt (putW W u v a b) u := (putW_mem w hu hv ne nt pa pb).mpr (.inr (.inl ⟨rfl, rfl⟩))
  have e : cutW (putW W u v a b) u v = W := by rw [cut_sym]; exact put_cut w hu hv ne nt pa pb
  have := steps_cut v1 m
  rwa [e] at this
/-- what is behind an old step -/
theorem put_behind {z : Int × Int} (hz : z ∈ stepsOf W) : behindF (putW W u v a b) z = if z.2 = u ∧ a = some z.1 then (u, v) else if z.2 = v ∧ b = some z.1 then (v, u) else behindF W z := by
  obtain ⟨p, q⟩ := z
  have hp : p ∈ rowsAt W q := rowsS w (mem_st.mp hz)
  have rows := putW_rows w hu hv ne nt pa pb
  have n2 : u ∉ rowsAt W v := fun h => nt (rowsS w h)
  unfold behindF
  dsimp only
  rw [rows]
  by_cases q1 : q = v
  · subst q1
    rw [if_pos rfl, if_neg (fun h => ne h.1.symm)]
    rcases rowB_at (v := u) pb with ⟨e0, _⟩ | ⟨y, rfl, hy, e⟩
    · rw [e0] at hp; cases hp
    · rw [e]
      by_cases c : p = y
      · subst c
        rw [if_pos ⟨rfl, rfl⟩, nxt_ins_a hy]
        all_goals exact n2
      · rw [if_neg (fun h => c (Option.some.inj h.2).symm), nxt_ins_b hy n2 hp c (rowsAt_ok w q).1]
  · rw [if_neg q1]
    by_cases q2 : q = u
    · subst q2
      rw [if_pos rfl]
      rcases rowB_at (v := v) pa with ⟨e0, _⟩ | ⟨y, rfl, hy, e⟩
      · rw [e0] at hp; cases hp
      · rw [e]
        by_cases c : p = y
        · subst c
          rw [if_pos ⟨rfl, rfl⟩, nxt_ins_a hy]
          all_goals exact nt
        · rw [if_neg (fun h => c (Option.some.inj h.2).symm), if_neg (fun h => q1 h.1), nxt_ins_b hy nt hp c (rowsAt_ok w q).1]
    · rw [if_neg q2, if_neg (fun h => q2 h.1), if_neg (fun h => q1 h.1)]
theorem put_behind_e : behindF (putW W u v a b) (u, v) = match b with
    | none => (v, u)
    | some y => behindF W (y, v) := by
  have rows := putW_rows w hu hv ne nt pa pb
  have n2 : u ∉ rowsAt W v := fun h => nt (rowsS w h)
  unfold behindF
  dsimp only
  rw [rows, if_pos rfl]
  rcases rowB_at (v := u) pb with ⟨e0, rfl, e⟩ | ⟨y, rfl, hy, e⟩
  · rw [e]
    exact congrArg (Prod.mk v) (nxt_app (l1 := []) (l2 := []) (a := u) (by simp))
  · rw [e, nxt_ins_p hy n2]
theorem put_behind_e' : behindF (putW W u v a b) (v, u) = match a with
    | none => (u, v)
    | some y => behindF W (y, u) := by
  have rows := putW_rows w hu hv ne nt pa pb
  unfold behindF
  dsimp only
  rw [rows, if_neg ne, if_pos rfl]
  rcases rowB_at (v := v) pa with ⟨e0, rfl, e⟩ | ⟨y, rfl, hy, e⟩
  · rw [e]
    exact congrArg (Prod.mk u) (nxt_app (l1 := []) (l2 := []) (a := v) (by simp))
  · rw [e, nxt_ins_p hy nt]
end
theorem flat_er {α : Type} [DecidableEq α] {L : List (List α)} {c : List α} (h : c ∈ L) : L.flatten.Perm (c ++ (L.erase c).flatten) := by
  have := flatten_perm (List.perm_cons_erase h)
  simpa using this
section
variable {α : Type} [DecidableEq α] {φ ψ : α → α} {D : List α} {L : List (List α)} {x y e f : α} (nd : D.Nodup) (c : Cov φ D L) (ne : e ∉ D) (nf : f ∉ D)
include nd c ne nf
/-- both corners on one face: it is parted in two -/
theorem cov_part {k : List α} (hk : k ∈ L) (hx : x ∈ k) (hy : y ∈ k) (xy : x ≠ y) (keep : ∀ z ∈ D, z ≠ x → z ≠ y → ψ z = φ z) (px : ψ x = e) (py : ψ y = f) (pe : ψ e = φ y) (pf : ψ f = φ x) : ∃ L', Cov ψ (e :: f :: D) L' ∧ L'.length = L.length + 1 := by
  obtain ⟨t, p, pm⟩ := (c.cyc k hk).turn hx
  have hyt : y ∈ t := by
    have := pm.mem_iff.mp hy
    exact (List.mem_cons.mp this).resolve_left (Ne.symm xy)
  obtain ⟨t1, t2, rfl⟩ := List.append_of_mem hyt
  have fl : D.Perm ((x :: (t1 ++ y :: t2)) ++ (L.erase k).flatten) := c.perm.symm.trans ((flat_er hk).trans (List.Perm.append_right _ pm))
  have nd2 : ((x :: (t1 ++ y :: t2)) ++ (L.erase k).flatten).Nodup := fl.nodup_iff.mp nd
  have inD : ∀ z, z ∈ (x :: (t1 ++ y :: t2)) ++ (L.erase k).flatten → z ∈ D := fun z hz => fl.mem_iff.mpr hz
  have n0 := List.nodup_append.mp nd2
  have n1 := List.nodup_cons.mp n0.1
  have n3 := List.nodup_append.mp n1.2
  have n4 := List.nodup_cons.mp n3.2.1
  have kt1 : ∀ z ∈ t1, ψ z = φ z := fun z hz => keep z (inD z (by simp [hz])) (fun q => n1.1 (q ▸ by simp [hz])) fun q => n3.2.2 z hz y (by simp) q
  have kt2 : ∀ z ∈ t2, ψ z = φ z := fun z hz => keep z (inD z (by simp [hz])) (fun q => n1.1 (q ▸ by simp [hz])) fun q => n4.1 (q ▸ hz)
  have kL : ∀ r ∈ L.erase k, ∀ z ∈ r, ψ z = φ z := fun r hr z hz => by
    have hz2 : z ∈ (L.erase k).flatten := List.mem_flatten.mpr ⟨r, hr, hz⟩
    exact keep z (inD z (List.mem_append_right _ hz2)) (fun q => n0.2.2 x (by simp) z hz2 q.symm) fun q => n0.2.2 y (by simp) z hz2 q.symm
  rw [Pth, pth_append, Pth] at p
  obtain ⟨p1, p2, p3, p4⟩ := p
  -- x -> t1 .. -> y -> t2 .. -> x
  refine ⟨(f :: (t1 ++ [y])) :: (e :: (t2 ++ [x])) :: L.erase k, ⟨fun r hr => ?_, ?_⟩, ?_⟩
  · rcases List.mem_cons.mp hr with rfl | hr
    · refine ⟨f, t1 ++ [y], rfl, ?_, ?_⟩
      · rw [pf, p1]; cases t1 <;> rfl
      · rw [pth_append]
        exact ⟨pth_congr t1 kt1 p2, py, trivial⟩
    · rcases List.mem_cons.mp hr with rfl | hr
      · refine ⟨e, t2 ++ [x], rfl, ?_, ?_⟩
        · rw [pe, p3]; cases t2 <;> rfl
        · rw [pth_append]
          exact ⟨pth_congr t2 kt2 p4, px, trivial⟩
      · exact cyc_congr (kL r hr) (c.cyc r (List.mem_of_mem_erase hr))
  · have : ((f :: (t1 ++ [y])) :: (e :: (t2 ++ [x])) :: L.erase k).flatten.Perm (e :: f :: ((x :: (t1 ++ y :: t2)) ++ (L.erase k).flatten)) := by
      rw [List.flatten_cons, List.flatten_cons]
      rw [List.perm_iff_count]
      intro z
      simp only [List.count_append, List.count_cons, List.count_nil]
      omega
    exact this.trans ((fl.symm.cons f).cons e)
  · have := List.length_pos_of_mem hk
    rw [List.length_cons, List.length_cons, List.length_erase_of_mem hk]; omega
/-- on two faces: they become one -/
theorem cov_join {k l : List α} (hk : k ∈ L) (hl : l ∈ L) (hx : x ∈ k) (hy : y ∈ l) (ny : y ∉ k) (keep : ∀ z ∈ D, z ≠ x → z ≠ y → ψ z = φ z) (px : ψ x = e) (py : ψ y = f) (pe : ψ e = φ y) (pf : ψ f = φ x) : ∃ L', Cov ψ (e :: f :: D) L' ∧ L'.length + 1 = L.length := by
  obtain ⟨t, p, pm⟩ := (c.cyc k hk).turn hx
  obtain ⟨s, q, qm⟩ := (c.cyc l hl).turn hy
  have kl : l ≠ k := fun z => ny (z ▸ hy)
  have hl2 : l ∈ L.erase k := (List.mem_erase_of_ne kl).mpr hl
  have fl : D.Perm ((x :: t) ++ ((y :: s) ++ ((L.erase k).erase l).flatten)) := c.perm.symm.trans ((flat_er hk).trans (List.Perm.append pm ((flat_er hl2).trans (List.Perm.append_right _ qm))))
  have nd2 := fl.nodup_iff.mp nd
  have inD : ∀ z, z ∈ (x :: t) ++ ((y :: s) ++ ((L.erase k).erase l).flatten) → z ∈ D := fun z hz => fl.mem_iff.mpr hz
  have n0 := List.nodup_append.mp nd2
  have n1 := List.nodup_cons.mp n0.1
  have n3 := List.nodup_append.mp n0.2.1
  have n4 := List.nodup_cons.mp n3.1
  have kt : ∀ z ∈ t, ψ z = φ z := fun z hz => keep z (inD z (by simp [hz])) (fun q => n1.1 (q ▸ hz)) fun q => n0.2.2 z (by simp [hz]) y (by simp) q
  have ks : ∀ z ∈ s, ψ z = φ z := fun z hz => keep z (inD z (by simp [hz])) (fun q => n0.2.2 x (by simp) z (by simp [hz]) q.symm) fun q => n4.1 (q ▸ hz)
  have kL : ∀ r ∈ (L.erase k).erase l, ∀ z ∈ r, ψ z = φ z := fun r hr z hz => by
    have hz2 : z ∈ ((L.erase k).erase l).flatten := List.mem_flatten.mpr ⟨r, hr, hz⟩
    exact keep z (inD z (by simp only [List.mem_append]; exact .inr (.inr hz2))) (fun q => n0.2.2 x (by simp) z (by simp only [List.mem_append]; exact .inr hz2) q.symm) fun q => n3.2.2 y (by simp) z hz2 q.symm
  rw [Pth] at p q
  refine ⟨(e :: (s ++ y :: f :: (t ++ [x]))) :: (L.erase k).erase l, ⟨fun r hr => ?_, ?_⟩, ?_⟩
  · rcases List.mem_cons.mp hr with rfl | hr
    · refine ⟨e, s ++ y :: f :: (t ++ [x]), rfl, ?_, ?_⟩
      · rw [pe, q.1]; cases s <;> rfl
      · rw [pth_append, Pth, Pth, pth_append]
        refine ⟨pth_congr s ks q.2, py, ?_, pth_congr t kt p.2, px, trivial⟩
        rw [pf, p.1]; cases t <;> rfl
    · exact cyc_congr (kL r hr) (c.cyc r (List.mem_of_mem_erase (List.mem_of_mem_erase hr)))
  · have : ((e :: (s ++ y :: f :: (t ++ [x]))) :: (L.erase k).erase l).flatten.Perm (e :: f :: ((x :: t) ++ ((y :: s) ++ ((L.erase k).erase l).flatten))) := by
      rw [List.flatten_cons, List.perm_iff_count]
      intro z
      simp only [List.count_append, List.count_cons, List.count_nil]
      omega
    exact this.trans ((fl.symm.cons f).cons e)
  · have a1 := List.length_erase_of_mem hk
    have a2 := List.length_erase_of_mem hl2
    have a3 := List.length_pos_of_mem hk
    have a4 := List.length_pos_of_mem hl2
    rw [List.length_cons]; omega
/-- one of them stands alone -/
theorem cov_lone {l : List α} (hl : l ∈ L) (hy : y ∈ l) (keep : ∀ z ∈ D, z ≠ y → ψ z = φ z) (py : ψ y = f) (pe : ψ e = φ y) (pf : ψ f = e) : ∃ L', Cov ψ (e :: f :: D) L' ∧ L'.length = L.length := by
  obtain ⟨s, q, qm⟩ := (c.cyc l hl).turn hy
  have fl : D.Perm ((y :: s) ++ (L.erase l).flatten) := c.perm.symm.trans ((flat_er hl).trans (List.Perm.append_right _ qm))
  have nd2 := fl.nodup_iff.mp nd
  have inD : ∀ z, z ∈ (y :: s) ++ (L.erase l).flatten → z ∈ D := fun z hz => fl.mem_iff.mpr hz
  have n3 := List.nodup_append.mp nd2
  have n4 := List.nodup_cons.mp n3.1
  have ks : ∀ z ∈ s, ψ z = φ z := fun z hz => keep z (inD z (by simp [hz])) fun q => n4.1 (q ▸ hz)
  have kL : ∀ r ∈ L.erase l, ∀ z ∈ r, ψ z = φ z := fun r hr z hz => by
    have hz2 : z ∈ (L.erase l).flatten := List.mem_flatten.mpr ⟨r, hr, hz⟩
    exact keep z (inD z (List.mem_append_right _ hz2)) fun q => n3.2.2 y (by simp) z hz2 q.symm
  rw [Pth] at q
  refine ⟨(f :: e :: (s ++ [y])) :: L.erase l, ⟨fun r hr => ?_, ?_⟩, ?_⟩
  · rcases List.mem_cons.mp hr with rfl | hr
    · refine ⟨f, e :: (s ++ [y]), rfl, pf, ?_, ?_⟩
      · rw [pe, q.1]; cases s <;> rfl
      · rw [pth_append]
        exact ⟨pth_congr s ks q.2, py, trivial⟩
    · exact cyc_congr (kL r hr) (c.cyc r (List.mem_of_mem_erase hr))
  · have : ((f :: e :: (s ++ [y])) :: L.erase l).flatten.Perm (e :: f :: ((y :: s) ++ (L.erase l).flatten)) := by
      rw [List.flatten_cons, List.perm_iff_count]
      intro z
      simp only [List.count_append, List.count_cons, List.count_nil]
      omega
    exact this.trans ((fl.symm.cons f).cons e)
  · have a1 := List.length_erase_of_mem hl
    have a3 := List.length_pos_of_mem hl
    rw [List.length_cons]; omega
omit nd ne nf in
/-- both stand alone -/
theorem cov_two (keep : ∀ z ∈ D, ψ z = φ z) (pe : ψ e = f) (pf : ψ f = e) : ∃ L', Cov ψ (e :: f :: D) L' ∧ L'.length = L.length + 1 := by
  have kL : ∀ r ∈ L, ∀ z ∈ r, ψ z = φ z := fun r hr z hz => keep z (c.perm.mem_iff.mp (List.mem_flatten.mpr ⟨r, hr, hz⟩))
  refine ⟨[e, f] :: L, ⟨fun r hr => ?_, ?_⟩, rfl⟩
  · rcases List.mem_cons.mp hr with rfl | hr
    · exact ⟨e, [f], rfl, pe, pf, trivial⟩
    · exact cyc_congr (kL r hr) (c.cyc r hr)
  · rw [List.flatten_cons]
    exact (c.perm.cons f).cons e
end
/-! a tie more: flat or not -/
theorem one_of {α : Type} [DecidableEq α] {L : List (List α)} (nf : L.flatten.Nodup) {k k' : List α} (hk : k ∈ L) (hk' : k' ∈ L) {x : α} (h1 : x ∈ k) (h2 : x ∈ k') : k' = k := by
  refine Classical.byContradiction fun q => ?_
  have hk2 : k' ∈ L.erase k := (List.mem_erase_of_ne q).mpr hk'
  have := (flat_er hk).nodup_iff.mp nf
  exact (List.nodup_append.mp this).2.2 _ h1 _ (List.mem_flatten.mpr ⟨k', hk2, h2⟩) rfl
def oN : Option Int → Nat
  | none => 1
  | some _ => 0
section
variable {W : WL} (w : Web W) {u v : Int} {a b : Option Int} (hu : u ∈ keysOf' W) (hv : v ∈ keysOf' W) (ne : u ≠ v) (nt : v ∉ rowsAt W u) (pa : placeB (rowsAt W u) a = true) (pb : placeB (rowsAt W v) b = true)
include w hu hv ne nt pa pb
theorem put_iso : isoN W = isoN (putW W u v a b) + oN a + oN b := by
  have mem := fun {x y : Int} => putW_mem w hu hv ne nt pa pb (x := x) (y := y)
  have ea : ∀ (r : List Int) (o : Option Int), placeB r o = true → (r.isEmpty = true ↔ o = none) := fun r o h => by
    rcases place_or h with ⟨rfl, rfl⟩ | ⟨x, rfl, _, ne⟩
    · simp
    · simp [ne]
  have ua := ea _ _ pa
  have vb := ea _ _ pb
  have ui : (rowsAt (putW W u v a b) u).isEmpty = false := by
    cases e : (rowsAt (putW W u v a b) u).isEmpty with
    | false => rfl
    | true =>
      have := (mem (x := u) (y := v)).mpr (.inr (.inl ⟨rfl, rfl⟩))
      rw [List.isEmpty_iff.mp e] at this; cases this
  have vi : (rowsAt (putW W u v a b) v).isEmpty = false := by
    cases e : (rowsAt (putW W u v a b) v).isEmpty with
    | false => rfl
    | true =>
      have := (mem (x := v) (y := u)).mpr (.inr (.inr ⟨rfl, rfl⟩))
      rw [List.isEmpty_iff.mp e] at this; cases this
  have oth : ∀ x, x ≠ u → x ≠ v → rowsAt (putW W u v a b) x = rowsAt W x := fun x h1 h2 => by rw [putW_rows w hu hv ne nt pa pb, if_neg h2, if_neg h1]
  have pm : ((keysOf' W).filter fun p => (rowsAt W p).isEmpty).Perm (((keysOf' W).filter fun p => (rowsAt (putW W u v a b) p).isEmpty) ++ ((if a = none then [u] else []) ++ if b = none then [v] else [])) := by
    refine (List.perm_ext_iff_of_nodup (w.nd.filter _) ?_).mpr fun x => ?_
    · refine List.nodup_append.mpr ⟨w.nd.filter _, ?_, ?_⟩
      · split <;> split <;> simp [ne]
      · intro x hx y hy e
        subst e
        have hx := (List.mem_filter.mp hx).2
        rcases List.mem_append.mp hy with h | h
        · split at h
          · rw [List.mem_singleton.mp h, ui] at hx; cases hx
          · cases h
        · split at h
          · rw [List.mem_singleton.mp h, vi] at hx; cases hx
          · cases h
    · rw [List.mem_append, List.mem_append, List.mem_filter, List.mem_filter]
      by_cases q1 : x = u
      · subst q1
        rw [ui, ua]
        by_cases z : a = none
        · simp [z, hu]
        · simp [z, ne]
      · by_cases q2 : x = v
        · subst q2
          rw [vi, vb]
          by_cases z : b = none
          · simp [z, hv]
          · simp [z]
            exact fun _ => q1
        · rw [oth x q1 q2]
          constructor
          · exact fun h => .inl h
          · rintro (h | h | h)
            · exact h
            · split at h
              · exact absurd (List.mem_singleton.mp h) q1
              · cases h
            · split at h
              · exact absurd (List.mem_singleton.mp h) q2
              · cases h
  have := pm.length_eq
  unfold isoN
  rw [putW_keys hu hv, this, List.length_append, List.length_append]
  cases a <;> cases b <;> simp [oN]
theorem old_ne {z : Int × Int} (hz : z ∈ stepsOf W) : z ≠ (u, v) ∧ z ≠ (v, u) := ⟨fun q => nt (mem_st.mp (q ▸ hz)), fun q => nt (rowsS w (mem_st.mp (q ▸ hz)))⟩
/-- the new tie's faces -/
theorem put_cov {L : List (List (Int × Int))} (c : Cov (behindF W) (stepsOf W) L) :
    (∃ x y, a = some x ∧ b = some y ∧ (∃ k ∈ L, (x, u) ∈ k ∧ (y, v) ∈ k) ∧ ∃ L', Cov (behindF (putW W u v a b)) (stepsOf (putW W u v a b)) L' ∧ L'.length = L.length + 1) ∨
    ((∀ x y, a = some x → b = some y → ¬ ∃ k ∈ L, (x, u) ∈ k ∧ (y, v) ∈ k) ∧ ∃ L', Cov (behindF (putW W u v a b)) (stepsOf (putW W u v a b)) L' ∧ L'.length + 1 = L.length + oN a + oN b) := by
  have ps := (put_stepsP w hu hv ne nt pa pb).symm
  have be := put_behind_e w hu hv ne nt pa pb
  have bf := put_behind_e' w hu hv ne nt pa pb
  have bo := fun {z} hz => put_behind w hu hv ne nt pa pb (z := z) hz
  have nd := steps_nodup w
  have on := fun {z} hz => old_ne w hu hv ne nt pa pb (z := z) hz
  have n1 : (u, v) ∉ stepsOf W := fun h => (on h).1 rfl
  have n2 : (v, u) ∉ stepsOf W := fun h => (on h).2 rfl
  cases a with
  | none =>
    refine .inr ⟨(fun _ _ e => nomatch e), ?_⟩
    cases b with
    | none =>
      obtain ⟨L', c', l⟩ := cov_two (ψ := behindF (putW W u v none none)) c (fun z hz => by rw [bo hz]; simp) be bf
      exact ⟨L', c'.steps ps, by simp [oN]; omega⟩
    | some y =>
      have hy : (y, v) ∈ stepsOf W := mem_st.mpr (rowsS w (of_decide_eq_true pb))
      obtain ⟨l, hl, hyl⟩ := List.mem_flatten.mp (c.perm.mem_iff.mpr hy)
      obtain ⟨L', c', e⟩ := cov_lone (ψ := behindF (putW W u v none (some y))) (e := (u, v)) (f := (v, u)) nd c n1 n2 hl hyl (fun z hz q => by
        rw [bo hz, if_neg (by simp), if_neg fun h => q (Prod.ext (Option.some.inj h.2).symm h.1)]) (by rw [bo hy, if_neg (by simp), if_pos ⟨rfl, rfl⟩]) be bf
      exact ⟨L', c'.steps ps, by simp [oN]; omega⟩
  | some x =>
    have hx : (x, u) ∈ stepsOf W := mem_st.mpr (rowsS w (of_decide_eq_true pa))
    obtain ⟨k, hk, hxk⟩ := List.mem_flatten.mp (c.perm.mem_iff.mpr hx)
    cases b with
    | none =>
      refine .inr ⟨(fun _ _ _ e => nomatch e), ?_⟩
      obtain ⟨L', c', e⟩ := cov_lone (ψ := behindF (putW W u v (some x) none)) (e := (v, u)) (f := (u, v)) nd c n2 n1 hk hxk (fun z hz q => by
        rw [bo hz, if_neg (fun h => q (Prod.ext (Option.some.inj h.2).symm h.1)), if_neg (by simp)]) (by rw [bo hx, if_pos ⟨rfl, rfl⟩]) bf be
      exact ⟨L', c'.steps ((List.Perm.swap _ _ _).trans ps), by simp [oN]; omega⟩
    | some y =>
      have hy : (y, v) ∈ stepsOf W := mem_st.mpr (rowsS w (of_decide_eq_true pb))
      have xy : (x, u) ≠ (y, v) := fun q => ne (Prod.mk.inj q).2
      have kx : behindF (putW W u v (some x) (some y)) (x, u) = (u, v) := by rw [bo hx, if_pos ⟨rfl, rfl⟩]
      have ky : behindF (putW W u v (some x) (some y)) (y, v) = (v, u) := by rw [bo hy, if_neg (fun h => ne h.1.symm), if_pos ⟨rfl, rfl⟩]
      have keep : ∀ z ∈ stepsOf W, z ≠ (x, u) → z ≠ (y, v) → behindF (putW W u v (some x) (some y)) z = behindF W z := fun z hz q1 q2 => by
        rw [bo hz, if_neg (fun h => q1 (Prod.ext (Option.some.inj h.2).symm h.1)), if_neg fun h => q2 (Prod.ext (Option.some.inj h.2).symm h.1)]
      by_cases hyk : (y, v) ∈ k
      · obtain ⟨L', c', e⟩ := cov_part (ψ := behindF (putW W u v (some x) (some y))) (e := (u, v)) (f := (v, u)) nd c n1 n2 hk hxk hyk xy keep kx ky be bf
        exact .inl ⟨x, y, rfl, rfl, ⟨k, hk, hxk, hyk⟩, L', c'.steps ps, e⟩
      · obtain ⟨l, hl, hyl⟩ := List.mem_flatten.mp (c.perm.mem_iff.mpr hy)
        obtain ⟨L', c', e⟩ := cov_join (ψ := behindF (putW W u v (some x) (some y))) (e := (u, v)) (f := (v, u)) nd c n1 n2 hk hl hxk hyl hyk keep kx ky be bf
        refine .inr ⟨fun x' y' e1 e2 ⟨k', hk', h1, h2⟩ => ?_, L', c'.steps ps, by simp [oN]; omega⟩
        cases e1; cases e2
        have nf : L.flatten.Nodup := c.perm.nodup_iff.mpr nd
        have : k' = k := one_of nf hk hk' hxk h1
        subst this
        exact hyk h2
theorem put_rch {p q : Int} (h : Rch W p q) : Rch (putW W u v a b) p q := rch_mono (fun x y m => (putW_mem w hu hv ne nt pa pb).mpr (.inl m)) h
theorem put_uv : Rch (putW W u v a b) u v := Rch.refl.step ((putW_mem w hu hv ne nt pa pb).mpr (.inr (.inl ⟨rfl, rfl⟩)))
/-- of one part: the tie is let in just where both corners are of one face -/
theorem let_same (kl : W.length ≤ 900) (f : Flt W) (r : Rch W u v) : ∃ x y, a = some x ∧ b = some y ∧ ((y, v) ∈ faceOf W (x, u) → Flt (putW W u v a b) ∧ (facesOf (putW W u v a b)).length = (facesOf W).length + 1) ∧ ((y, v) ∉ faceOf W (x, u) → ¬ Flt (putW W u v a b)) := by
  have v1 := putW_web w hu hv ne nt pa pb
  have ll := putW_len hu hv (a := a) (b := b) (W := W)
  have io := put_iso w hu hv ne nt pa pb
  have sl := (put_stepsP w hu hv ne nt pa pb).length_eq
  simp only [List.length_cons] at sl
  have st := steps_twice w
  have fc := (flt_count w kl).mp f
  have o := parts_ok w kl
  obtain ⟨R, eR, sR⟩ := o.heads
  have rowne : ∀ {p q : Int}, Rch W p q → p ≠ q → rowsAt W q ≠ [] := fun h n => rch_row w h n
  have ru : rowsAt W u ≠ [] := rowne (r.symm w) (Ne.symm ne)
  have rv : rowsAt W v ≠ [] := rowne r ne
  rcases place_or pa with ⟨e, _⟩ | ⟨x, rfl, hx, _⟩
  · exact absurd e ru
  rcases place_or pb with ⟨e, _⟩ | ⟨y, rfl, hy, _⟩
  · exact absurd e rv
  refine ⟨x, y, rfl, rfl, ?_⟩
  obtain ⟨L, c, _⟩ := faces_cov w
  have fl := faces_len w c
  have hxs : (x, u) ∈ stepsOf W := mem_st.mpr (rowsS w hx)
  have fo := faceOf_ok w .nil hxs (by simp)
  have same : ((∃ k ∈ L, (x, u) ∈ k ∧ (y, v) ∈ k) ↔ (y, v) ∈ faceOf W (x, u)) := by
    obtain ⟨k, hk, hxk⟩ := List.mem_flatten.mp (c.perm.mem_iff.mpr hxs)
    obtain ⟨t, p, pm⟩ := (c.cyc k hk).turn hxk
    obtain ⟨⟨t', e'⟩, p'⟩ := fc_pth w .nil _ _ _ (.start hxs (by simp)) (show (stepsOf W).length < (stepsOf W).length + 1 + [(x, u)].length by simp only [List.length_singleton]; omega) ⟨[], rfl⟩ ⟨rfl, trivial⟩
    have e' : faceOf W (x, u) = (x, u) :: t' := e'
    have p' : Pth (behindF W) (faceOf W (x, u)) (x, u) := p'
    rw [e'] at p'
    have nf : L.flatten.Nodup := c.perm.nodup_iff.mpr (steps_nodup w)
    have nk : k.Nodup := (List.sublist_flatten_of_mem hk).nodup nf
    have n1 := List.nodup_cons.mp (pm.nodup_iff.mp nk)
    have n2 := List.nodup_cons.mp (e' ▸ fo.nd)
    have et : t = t' := pth_same p.2 p'.2 (p.1.symm.trans p'.1) n1.1 n2.1
    rw [e', ← et]
    constructor
    · rintro ⟨k', hk', h1, h2⟩
      have : k' = k := one_of nf hk hk' hxk h1
      subst this
      exact pm.mem_iff.mp h2
    · exact fun h => ⟨k, hk, hxk, pm.mem_iff.mpr h⟩
  simp only [oN, Nat.add_zero] at io
  rcases put_cov w hu hv ne nt pa pb c with ⟨x', y', e1, e2, hs, L', c', l'⟩ | ⟨hn, L', c', l'⟩
  · cases e1; cases e2
    refine ⟨fun _ => ?_, fun q => absurd (same.mp hs) q⟩
    have fl' := faces_len v1 c'
    refine ⟨⟨L', R, c', fun p hp => ?_, by omega⟩, by omega⟩
    rw [putW_keys hu hv] at hp
    obtain ⟨q, hq, k⟩ := sR p hp
    exact ⟨q, hq, put_rch w hu hv ne nt pa pb k⟩
  · refine ⟨fun q => absurd (same.mpr q) (hn x y rfl rfl), fun _ g => ?_⟩
    simp only [oN, Nat.add_zero] at l'
    obtain ⟨L2, R2, c2, s2, le2⟩ := g
    have := cov_len L2 (steps_nodup v1) c2 c'
    have s3 : Spn W R2 := fun p hp => by
      obtain ⟨q, hq, k⟩ := s2 p (by rw [putW_keys hu hv]; exact hp)
      refine ⟨q, hq, ?_⟩
      clear hq
      induction k with
      | refl => exact .refl
      | @step m n k hm ih =>
        have hm2 := hm
        rw [putW_mem w hu hv ne nt pa pb] at hm
        have km : m ∈ keysOf' W := by
          have := rowsAt_key hm2
          rwa [putW_keys hu hv] at this
        have ih := ih km
        rcases hm with h | ⟨rfl, rfl⟩ | ⟨rfl, rfl⟩
        · exact ih.step h
        · exact ih.trans r
        · exact ih.trans (r.symm w)
    have := o.le w s3
    omega
/-- of two parts: always -/
theorem let_apart (kl : W.length ≤ 900) (f : Flt W) (r : ¬ Rch W u v) : Flt (putW W u v a b) ∧ (facesOf (putW W u v a b)).length + 1 = (facesOf W).length + oN a + oN b := by
  have v1 := putW_web w hu hv ne nt pa pb
  have ll := putW_len hu hv (a := a) (b := b) (W := W)
  have io := put_iso w hu hv ne nt pa pb
  have sl := (put_stepsP w hu hv ne nt pa pb).length_eq
  simp only [List.length_cons] at sl
  have st := steps_twice w
  have fc := (flt_count w kl).mp f
  have o := parts_ok w kl
  obtain ⟨R, eR, sR⟩ := o.heads
  obtain ⟨L, c, _⟩ := faces_cov w
  have fl := faces_len w c
  rcases put_cov w hu hv ne nt pa pb c with ⟨x, y, rfl, rfl, ⟨k, hk, h1, h2⟩, _⟩ | ⟨_, L', c', l'⟩
  · exfalso
    obtain ⟨t, p, pm⟩ := (c.cyc k hk).turn h1
    have hyt : (y, v) ∈ t := by
      have := pm.mem_iff.mp h2
      exact (List.mem_cons.mp this).resolve_left fun q => ne (Prod.mk.inj q).2.symm
    obtain ⟨t1, t2, rfl⟩ := List.append_of_mem hyt
    have hs : ∀ z ∈ (x, u) :: t1, z ∈ stepsOf W := fun z hz => c.perm.mem_iff.mp (List.mem_flatten.mpr ⟨k, hk, pm.mem_iff.mpr (by
      rcases List.mem_cons.mp hz with q | q
      · simp [q]
      · simp [q])⟩)
    have p2 : Pth (behindF W) ((x, u) :: t1) (y, v) := by
      have := p
      rw [← List.cons_append, pth_append] at this
      exact this.1
    have rr := walk_rch _ hs p2
    have hx := mem_st.mp (hs (x, u) List.mem_cons_self)
    have hy : (y, v) ∈ stepsOf W := c.perm.mem_iff.mp (List.mem_flatten.mpr ⟨k, hk, h2⟩)
    exact r ((Rch.refl.step (rowsS w hx)).trans (rr.trans (Rch.refl.step (mem_st.mp hy))))
  · have fl' := faces_len v1 c'
    obtain ⟨pv, hpv, kv⟩ := sR v hv
    obtain ⟨pu, hpu, ku⟩ := sR u hu
    have npu : pu ≠ pv := fun q => r ((ku.symm w).trans (q ▸ kv))
    have le : (R.erase pv).length = R.length - 1 := List.length_erase_of_mem hpv
    have lp := List.length_pos_of_mem hpv
    refine ⟨⟨L', R.erase pv, c', fun p hp => ?_, by omega⟩, by omega⟩
    rw [putW_keys hu hv] at hp
    obtain ⟨q, hq, k⟩ := sR p hp
    by_cases z : q = pv
    · subst z
      refine ⟨pu, (List.mem_erase_of_ne npu).mpr hpu, ?_⟩
      have g := fun {a' b'} h => put_rch w hu hv ne nt pa pb (p := a') (q := b') h
      exact ((g ku).trans (put_uv w hu hv ne nt pa pb)).trans ((g (kv.symm w)).trans (g k))
    · exact ⟨q, (List.mem_erase_of_ne z).mpr hq, put_rch w hu hv ne nt pa pb k⟩
end


--@told _law_some_full

def b__law_some_full : XS := (sSeq (sAsg (xCall g__law_names (xCons (xVar 0) (xCons (xOp opAdd (xC (.int 3)) (xOp opMod (xCall g__law_next (xCons (xVar 0) xNil)) (xOp opSub (xVar 1) (xC (.int 2))))) xNil))) (gNm 2))
    (sRet (xCall (toldF Ew.g__law_begun) (xCons (xVar 0) (xCons (xCall (toldF Ew.g__law_full) (xCons (xVar 0) (xCons (xVar 2) xNil))) xNil)))))
def g__law_some_full : Fn := runDef 3 b__law_some_full
theorem d__law_some_full {x0 x1 : MV} {h : MH} {R : MV → MH → Prop} (w : Wp (b__law_some_full [some x0, some x1, none] h) fun f _ h1 => kR f fun v => R v h1) : We (g__law_some_full [x0, x1] h) R := we_def w

theorem put_web {W : WL} (w : Web W) {p : Int} {r r' : List Int} (e : rowOf W p = some r) (pm : r'.Perm r) : Web (putRow W p r') := by
  have hp := rowOf_mem e
  refine ⟨by rw [keys_put, if_pos hp]; exact w.nd, fun u q eq => ?_, fun u v q eq hv => ?_⟩
  · rw [rowOf_put] at eq
    split at eq
    · rename_i z
      cases eq
      subst z
      exact ⟨pm.nodup_iff.mpr (w.row u r e).1, fun h => (w.row u r e).2 (pm.mem_iff.mp h)⟩
    · exact w.row u q eq
  · have key : ∀ x r0, rowOf W x = some r0 → ∀ y, y ∈ r0 → ∃ r1, rowOf (putRow W p r') x = some r1 ∧ y ∈ r1 := fun x r0 e0 y hy => by
      rw [rowOf_put]
      by_cases z : x = p
      · subst z
        rw [if_pos rfl]
        rw [e] at e0
        cases e0
        exact ⟨r', rfl, pm.mem_iff.mpr hy⟩
      · rw [if_neg z]; exact ⟨r0, e0, hy⟩
    have old : ∃ r0, rowOf W u = some r0 ∧ v ∈ r0 := by
      rw [rowOf_put] at eq
      split at eq
      · rename_i z
        cases eq
        subst z
        exact ⟨r, e, pm.mem_iff.mp hv⟩
      · exact ⟨q, eq, hv⟩
    obtain ⟨r0, e0, h0⟩ := old
    obtain ⟨r1, e1, h1⟩ := w.sym u v r0 e0 h0
    exact key v r1 e1 u h1

def b_tie_name : XS := (sRet (xTup (xCons (xArgs fMin2 (xCons (xVar 0) (xCons (xVar 1) xNil))) (xCons (xArgs fMax2 (xCons (xVar 0) (xCons (xVar 1) xNil))) xNil))))
def g_tie_name : Fn := runDef 2 b_tie_name
theorem d_tie_name {x0 x1 : MV} {h : MH} {R : MV → MH → Prop} (w : Wp (b_tie_name [some x0, some x1] h) fun f _ h1 => kR f fun v => R v h1) : We (g_tie_name [x0, x1] h) R := we_def w

def B1_open_rows : XS := (sPut (xVar 1) (xVar 2) (xArgs fList (xCons (xOp opIx (xVar 0) (xVar 2)) xNil)))
def b_open_rows : XS := (sSeq (sAsg (xBox (xC (.dK []))) (gNm 1))
    (sSeq (sForK 0 (gNm 2) B1_open_rows)
    (sRet (xVar 1))))
def g_open_rows : Fn := runDef 3 b_open_rows
theorem d_open_rows {x0 : MV} {h : MH} {R : MV → MH → Prop} (w : Wp (b_open_rows [some x0, none, none] h) fun f _ h1 => kR f fun v => R v h1) : We (g_open_rows [x0] h) R := we_def w

def B1_closed_rows : XS := (sPut (xVar 1) (xVar 2) (xArgs fTuple (xCons (xOp opIx (xVar 0) (xVar 2)) xNil)))
def b_closed_rows : XS := (sSeq (sAsg (xBox (xC (.dK []))) (gNm 1))
    (sSeq (sForK 0 (gNm 2) B1_closed_rows)
    (sRet (xVar 1))))
def g_closed_rows : Fn := runDef 3 b_closed_rows
theorem d_closed_rows {x0 : MV} {h : MH} {R : MV → MH → Prop} (w : Wp (b_closed_rows [some x0, none, none] h) fun f _ h1 => kR f fun v => R v h1) : We (g_closed_rows [x0] h) R := we_def w


def b_put_behind : XS := (sSeq (sAsg (xOp opAdd (xOp opIndexL (xOp opIx (xVar 0) (xVar 1)) (xVar 2)) (xC (.int 1))) (gNm 4))
    (sPut (xVar 0) (xVar 1) (xCat (xCat (xSlL (xOp opIx (xVar 0) (xVar 1)) xNoPart (xPart (xVar 4))) (xLst (xCons (xVar 3) xNil))) (xSlL (xOp opIx (xVar 0) (xVar 1)) (xPart (xVar 4)) xNoPart))))
def g_put_behind : Fn := runDef 5 b_put_behind
theorem d_put_behind {x0 x1 x2 x3 : MV} {h : MH} {R : MV → MH → Prop} (w : Wp (b_put_behind [some x0, some x1, some x2, some x3, none] h) fun f _ h1 => kR f fun v => R v h1) : We (g_put_behind [x0, x1, x2, x3] h) R := we_def w

def B1_corner_to_cut : XS := (sSeq (sAsg (xOp opIx (xOp opIx (xVar 1) (xVar 3)) (xC (.int 0))) (gNm 4))
    (sSeq (sAsg (xOp opIx (xOp opIx (xVar 1) (xOp opMod (xOp opAdd (xVar 3) (xC (.int 2))) (xVar 2))) (xC (.int 0))) (gNm 5))
    (sIf (xAndT (xB (xOp opNe (xVar 4) (xVar 5))) (xB (xOp opNotIn (xVar 5) (xOp opIx (xVar 0) (xVar 4))))) (sRet (xVar 3)) sNext)))
def b_corner_to_cut : XS := (sSeq (sAsg (xArgs fLen (xCons (xVar 1) xNil)) (gNm 2))
    (sSeq (sFor (iRange1 (xVar 2)) (gNm 3) B1_corner_to_cut)
    (sRet (xUn opNeg (xC (.int 1))))))
def g_corner_to_cut : Fn := runDef 6 b_corner_to_cut
theorem d_corner_to_cut {x0 x1 : MV} {h : MH} {R : MV → MH → Prop} (w : Wp (b_corner_to_cut [some x0, some x1, none, none, none, none] h) fun f _ h1 => kR f fun v => R v h1) : We (g_corner_to_cut [x0, x1] h) R := we_def w


def b_cut_corner : XS := (sSeq (sAsg (xArgs fLen (xCons (xVar 1) xNil)) (gNm 3))
    (sSeq (sAsg (xOp opIx (xOp opIx (xVar 1) (xOp opSub (xVar 2) (xC (.int 1)))) (xC (.int 0))) (gNm 4))
    (sSeq (sAsg (xOp opIx (xOp opIx (xVar 1) (xVar 2)) (xC (.int 0))) (gNm 5))
    (sSeq (sAsg (xOp opIx (xOp opIx (xVar 1) (xOp opMod (xOp opAdd (xVar 2) (xC (.int 1))) (xVar 3))) (xC (.int 0))) (gNm 6))
    (sSeq (sAsg (xOp opIx (xOp opIx (xVar 1) (xOp opMod (xOp opAdd (xVar 2) (xC (.int 2))) (xVar 3))) (xC (.int 0))) (gNm 7))
    (sSeq (sExpr (xCall g_put_behind (xCons (xVar 0) (xCons (xVar 5) (xCons (xVar 4) (xCons (xVar 7) xNil))))))
    (sSeq (sExpr (xCall g_put_behind (xCons (xVar 0) (xCons (xVar 7) (xCons (xVar 6) (xCons (xVar 5) xNil))))))
    (sRet (xTup (xCons (xVar 5) (xCons (xVar 7) xNil)))))))))))
def g_cut_corner : Fn := runDef 8 b_cut_corner
theorem d_cut_corner {x0 x1 x2 : MV} {h : MH} {R : MV → MH → Prop} (w : Wp (b_cut_corner [some x0, some x1, some x2, none, none, none, none, none] h) fun f _ h1 => kR f fun v => R v h1) : We (g_cut_corner [x0, x1, x2] h) R := we_def w


def b__law_changed : XS := (sSeq (sAsg (xCall g__law_next (xCons (xVar 0) xNil)) (gNm 2))
    (sSeq (sSet 3 (xLc (iSeq (xUn fKeysS (xVar 1))) (gNm 4) (xB (xOp opGt (xArgs fLen (xCons (xOp opIx (xVar 1) (xVar 4)) xNil)) (xC (.int 2)))) (xVar 4) [4]))
    (sSeq (sAsg (xBox (xCall (toldF Ew.g__law_twin) (xCons (xVar 1) xNil))) (gNm 5))
    (sSeq (sAsg (xOp opIx (xVar 3) (xOp opMod (xVar 2) (xArgs fLen (xCons (xVar 3) xNil)))) (gNm 4))
    (sSeq (sAsg (xOp opIx (xVar 1) (xVar 4)) (gNm 6))
    (sSeq (sAsg (xOp opMod (xOp opDiv (xVar 2) (xC (.int 50))) (xOp opSub (xArgs fLen (xCons (xVar 6) xNil)) (xC (.int 1)))) (gNm 7))
    (sSeq (sPut (xVar 5) (xVar 4) (xOp opCatT (xOp opCatT (xSlT (xVar 6) xNoPart (xPart (xVar 7))) (xTupR (xCons (xOp opIx (xVar 6) (xOp opAdd (xVar 7) (xC (.int 1)))) (xCons (xOp opIx (xVar 6) (xVar 7)) xNil)))) (xSlT (xVar 6) (xPart (xOp opAdd (xVar 7) (xC (.int 2)))) xNoPart)))
    (sRet (xVar 5)))))))))
def g__law_changed : Fn := runDef 8 b__law_changed
theorem d__law_changed {x0 x1 : MV} {h : MH} {R : MV → MH → Prop} (w : Wp (b__law_changed [some x0, some x1, none, none, none, none, none, none] h) fun f _ h1 => kR f fun v => R v h1) : We (g__law_changed [x0, x1] h) R := we_def w

def B1__law_beside : XS := (sSeq (sAsg (xOp opIx (xLc (iRange1 (xC (.int 999))) (gNm 6) (xB (xOp opNotIn (xVar 6) (xVar 2))) (xVar 6) [6]) (xOp opAdd (xOp opMod (xOp opDiv (xVar 3) (xC (.int 3))) (xC (.int 5))) (xVar 4))) (gNm 5))
    (sPut (xVar 2) (xVar 5) (xTupR xNil)))
def b__law_beside : XS := (sSeq (sAsg (xBox (xCall (toldF Ew.g__law_twin) (xCons (xVar 0) xNil))) (gNm 2))
    (sSeq (sAsg (xCall g__law_next (xCons (xVar 1) xNil)) (gNm 3))
    (sSeq (sFor (iRange1 (xOp opMod (xVar 3) (xC (.int 3)))) (gNm 4) B1__law_beside)
    (sRet (xVar 2)))))
def g__law_beside : Fn := runDef 7 b__law_beside
theorem d__law_beside {x0 x1 : MV} {h : MH} {R : MV → MH → Prop} (w : Wp (b__law_beside [some x0, some x1, none, none, none, none, none] h) fun f _ h1 => kR f fun v => R v h1) : We (g__law_beside [x0, x1] h) R := we_def w

def B1_join_parts : XS := (sSeq (sPar 6 7 (xOp opIx (xVar 2) (xOp opSub (xVar 5) (xC (.int 1)))) (xOp opIx (xVar 2) (xVar 5)))
    (sSeq (sPut (xVar 1) (xVar 6) (xCat (xOp opIx (xVar 1) (xVar 6)) (xLst (xCons (xVar 7) xNil))))
    (sSeq (sPut (xVar 1) (xVar 7) (xCat (xOp opIx (xVar 1) (xVar 7)) (xLst (xCons (xVar 6) xNil))))
    (sExpr (xAppend (xVar 4) (xTup (xCons (xVar 6) (xCons (xVar 7) xNil))))))))
def b_join_parts : XS := (sSeq (sSet 2 (xLc (iSeq (xCall (toldF Ew.g_parts) (xCons (xVar 0) xNil))) (gNm 3) cYes (xOp opIx (xVar 3) (xC (.int 0))) [3]))
    (sSeq (sAsg (xBox (xLst xNil)) (gNm 4))
    (sSeq (sFor (iRange2 (xC (.int 1)) (xArgs fLen (xCons (xVar 2) xNil))) (gNm 5) B1_join_parts)
    (sRet (xVar 4)))))
def g_join_parts : Fn := runDef 8 b_join_parts
theorem d_join_parts {x0 x1 : MV} {h : MH} {R : MV → MH → Prop} (w : Wp (b_join_parts [some x0, some x1, none, none, none, none, none, none] h) fun f _ h1 => kR f fun v => R v h1) : We (g_join_parts [x0, x1] h) R := we_def w

def W1_cut_face : XT := (xB (xOp opGt (xArgs fLen (xCons (xVar 4) xNil)) (xC (.int 3))))
def B1_cut_face : XS := (sSeq (sAsg (xCall g_cut_corner (xCons (xVar 0) (xCons (xVar 4) (xCons (xCall g_corner_to_cut (xCons (xVar 0) (xCons (xVar 4) xNil))) xNil)))) (gNm 5))
    (sSeq (sExpr (xAppend (xVar 3) (xVar 5)))
    (sAsg (xCall (toldF Ew.g_face_from) (xCons (xVar 0) (xCons (xOp opIx (xVar 5) (xC (.int 0))) (xCons (xOp opIx (xVar 5) (xC (.int 1))) xNil)))) (gNm 4))))
def b_cut_face : XS := (sSeq (sAsg (xBox (xLst xNil)) (gNm 3))
    (sSeq (sAsg (xCall (toldF Ew.g_face_from) (xCons (xVar 0) (xCons (xVar 1) (xCons (xVar 2) xNil)))) (gNm 4))
    (sSeq (sWhile W1_cut_face B1_cut_face)
    (sRet (xVar 3)))))
def g_cut_face : Fn := runDef 6 b_cut_face
theorem d_cut_face {x0 x1 x2 : MV} {h : MH} {R : MV → MH → Prop} (w : Wp (b_cut_face [some x0, some x1, some x2, none, none, none] h) fun f _ h1 => kR f fun v => R v h1) : We (g_cut_face [x0, x1, x2] h) R := we_def w

def B1__law_crossed : XS := (sSeq (sSet 5 (xLc (iSeq (xVar 1)) (gNm 6) (xB (xOp opNe (xVar 6) (xVar 4))) (xVar 6) [6]))
    (sSeq (sAsg (xOp opMod (xCall g__law_mixed (xCons (xVar 2) (xCons (xVar 4) xNil))) (xArgs fLen (xCons (xVar 5) xNil))) (gNm 7))
    (sPut (xVar 3) (xVar 4) (xArgs fTuple (xCons (xCat (xSlL (xVar 5) (xPart (xVar 7)) xNoPart) (xSlL (xVar 5) xNoPart (xPart (xVar 7)))) xNil)))))
def b__law_crossed : XS := (sSeq (sAsg (xCall g__law_names (xCons (xVar 0) (xCons (xOp opAdd (xC (.int 5)) (xOp opMod (xCall g__law_next (xCons (xVar 0) xNil)) (xC (.int 4)))) xNil))) (gNm 1))
    (sSeq (sAsg (xCall g__law_next (xCons (xVar 0) xNil)) (gNm 2))
    (sSeq (sAsg (xBox (xC (.dK []))) (gNm 3))
    (sSeq (sFor (iSeq (xVar 1)) (gNm 4) B1__law_crossed)
    (sRet (xVar 3))))))
def g__law_crossed : Fn := runDef 8 b__law_crossed
theorem d__law_crossed {x0 : MV} {h : MH} {R : MV → MH → Prop} (w : Wp (b__law_crossed [some x0, none, none, none, none, none, none, none] h) fun f _ h1 => kR f fun v => R v h1) : We (g__law_crossed [x0] h) R := we_def w


def b__law_crooked : XS := (sSeq (sIf (xB (xOp opEq (xOp opMod (xCall g__law_next (xCons (xVar 0) xNil)) (xC (.int 2))) (xC (.int 0)))) (sRet (xCall (toldF Ew.g__law_beside) (xCons (xCall (toldF Ew.g__law_crossed) (xCons (xVar 0) xNil)) (xCons (xVar 0) xNil)))) sNext)
    (sSeq (sAsg (xCall g__law_names (xCons (xVar 0) (xCons (xOp opAdd (xC (.int 4)) (xOp opMod (xCall g__law_next (xCons (xVar 0) xNil)) (xC (.int 21)))) xNil))) (gNm 1))
    (sRet (xCall (toldF Ew.g__law_beside) (xCons (xCall (toldF Ew.g__law_changed) (xCons (xVar 0) (xCons (xCall (toldF Ew.g__law_begun) (xCons (xVar 0) (xCons (xCall (toldF Ew.g__law_full) (xCons (xVar 0) (xCons (xVar 1) xNil))) xNil))) xNil))) (xCons (xVar 0) xNil))))))
def g__law_crooked : Fn := runDef 2 b__law_crooked
theorem d__law_crooked {x0 : MV} {h : MH} {R : MV → MH → Prop} (w : Wp (b__law_crooked [some x0, none] h) fun f _ h1 => kR f fun v => R v h1) : We (g__law_crooked [x0] h) R := we_def w

def B1_filled : XS := (sExpr (xExtend (xVar 2) (xCall (toldF Ew.g_cut_face) (xCons (xVar 1) (xCons (xVar 3) (xCons (xVar 4) xNil))))))
def b_filled : XSX := (seqX (ifX (xNotT (xB (xCall g_is_flat (xCons (xVar 0) xNil)))) (raiseX 0) (liftX sNext))
    (seqX (ifX (xB (xOp opLt (xArgs fLen (xCons (xVar 0) xNil)) (xC (.int 3)))) (raiseX 1) (liftX sNext))
    (seqX (liftX (sAsg (xCall g_open_rows (xCons (xVar 0) xNil)) (gNm 1)))
    (seqX (liftX (sAsg (xCall g_join_parts (xCons (xVar 0) (xCons (xVar 1) xNil))) (gNm 2)))
    (seqX (liftX (sFor (iSeq (xCall (toldF Ew.g_steps_of) (xCons (xCall (toldF Ew.g_closed_rows) (xCons (xVar 1) xNil)) xNil))) (gTp 2 (gsCons (gNm 3) (gsCons (gNm 4) gsNil))) B1_filled))
    (liftX (sRet (xTup (xCons (xCall (toldF Ew.g_closed_rows) (xCons (xVar 1) xNil)) (xCons (xArgs fSorted (xCons (xLc (iSeq (xVar 2)) (gTp 2 (gsCons (gNm 3) (gsCons (gNm 4) gsNil))) cYes (xCall g_tie_name (xCons (xVar 3) (xCons (xVar 4) xNil))) [3, 4]) xNil)) xNil))))))))))
def g_filled : FnX := runDefX 5 b_filled
theorem d_filled {x0 : MV} {h : MH} {R : RX → MH → Prop} (w : Wx (b_filled [some x0, none, none, none, none] h) (kRX R)) : Wr (g_filled [x0] h) R := wr_def w


def b__law_refused : XS := (sSeq (sAsg (xC .non) (gNm 1))
    (sSeq (sTryAs 4 subC (exprX (toldX Ew.g_filled) (xCons (xVar 0) xNil)) 2 2 ((fun c => subC c 0) :: ((fun c => subC c 1) :: ((fun c => subC c 3) :: ((fun _ => true) :: [])))) 1)
    (sRet (xVar 1))))
def g__law_refused : Fn := runDef 3 b__law_refused
theorem d__law_refused {x0 : MV} {h : MH} {R : MV → MH → Prop} (w : Wp (b__law_refused [some x0, none, none] h) fun f _ h1 => kR f fun v => R v h1) : We (g__law_refused [x0] h) R := we_def w

def B1_law : XS := (sSeq (sAsg (xCall (toldF Ew.g__law_twin) (xCons (xVar 5) xNil)) (gNm 6))
    (sIf (xOrT (xB (xOp opNe (xCall (toldV Ew.g__law_refused) (xCons (xVar 5) xNil)) (xLst (xCons (xC (.bl false)) (xCons (xC (.bl true)) (xCons (xC (.bl false)) (xCons (xC (.bl true)) xNil))))))) (xB (xOp opNe (xVar 5) (xVar 6)))) (sRet (xC (.bl false))) sNext))
def B2_law : XS := (sIf (xB (xOp opNotNon (xCall (toldV Ew.g__law_refused) (xCons (xVar 5) xNil)) (xC .non))) (sRet (xC (.bl false))) sNext)
def B3_law : XS := (sSeq (sAsg (xCall (toldV Ew.g__law_crooked) (xCons (xVar 1) xNil)) (gNm 5))
    (sSeq (sAsg (xCall (toldF Ew.g__law_twin) (xCons (xVar 5) xNil)) (gNm 6))
    (sIf (xOrT (xB (xOp opNe (xCall (toldV Ew.g__law_refused) (xCons (xVar 5) xNil)) (xLst (xCons (xC (.bl true)) (xCons (xC (.bl false)) (xCons (xC (.bl false)) (xCons (xC (.bl true)) xNil))))))) (xB (xOp opNe (xVar 5) (xVar 6)))) (sRet (xC (.bl false))) sNext)))
def b_law : XS := (sSeq (sAsg (xCall g__law_draws (xCons (xVar 0) xNil)) (gNm 1))
    (sSeq (sAsg (xCall g__law_names (xCons (xVar 1) (xCons (xC (.int 3)) xNil))) (gLp 3 (gsCons (gNm 2) (gsCons (gNm 3) (gsCons (gNm 4) gsNil)))))
    (sSeq (sFor (iSeq (xLst (xCons (xC (.dK [])) (xCons (xDisp (((xVar 2), (xTupR xNil)) :: [])) (xCons (xDisp (((xVar 2), (xTupR xNil)) :: (((xVar 3), (xTupR xNil)) :: []))) (xCons (xDisp (((xVar 2), (xTupR (xCons (xVar 3) xNil))) :: (((xVar 3), (xTupR (xCons (xVar 2) xNil))) :: []))) xNil)))))) (gNm 5) B1_law)
    (sSeq (sFor (iSeq (xLst (xCons (xDisp (((xVar 2), (xTupR xNil)) :: (((xVar 3), (xTupR xNil)) :: (((xVar 4), (xTupR xNil)) :: [])))) (xCons (xDisp (((xVar 2), (xTupR (xCons (xVar 3) xNil))) :: (((xVar 3), (xTupR (xCons (xVar 2) xNil))) :: (((xVar 4), (xTupR xNil)) :: [])))) (xCons (xDisp (((xVar 2), (xTupR (xCons (xVar 3) (xCons (xVar 4) xNil)))) :: (((xVar 3), (xTupR (xCons (xVar 4) (xCons (xVar 2) xNil)))) :: (((xVar 4), (xTupR (xCons (xVar 2) (xCons (xVar 3) xNil)))) :: [])))) xNil))))) (gNm 5) B2_law)
    (sSeq (sFor (iRange1 (xC (.int 4))) (gNm 7) B3_law)
    (sRet (xOp opIsNon (xCall (toldV Ew.g__law_refused) (xCons (xCall (toldV Ew.g__law_some_full) (xCons (xVar 1) (xCons (xC (.int 12)) xNil))) xNil)) (xC .non))))))))
def g_law : Fn := runDef 8 b_law
theorem d_law {x0 : MV} {h : MH} {R : MV → MH → Prop} (w : Wp (b_law [some x0, none, none, none, none, none, none, none] h) fun f _ h1 => kR f fun v => R v h1) : We (g_law [x0] h) R := we_def w





/-! ### webs filled: a corner that can be cut -/
theorem headD_filter {p : Int → Bool} : ∀ {l : List Int} {a : Int}, l ≠ [] → l.headD 0 = a → p a = true → (l.filter p).headD 0 = a
  | [], _, ne, _, _ => absurd rfl ne
  | x :: l, a, _, e, h => by
    have : x = a := e
    subst this
    rw [List.filter_cons_of_pos h]; rfl
theorem nxt_filter {p : Int → Bool} {r : List Int} {a b : Int} (ha : a ∈ r) (pa : p a = true) (e : nxt r a = b) (pb : p b = true) : nxt (r.filter p) a = b := by
  obtain ⟨l1, l2, rfl, n1, _⟩ := split_at ha
  rw [nxt_app n1] at e
  rw [List.filter_append, List.filter_cons_of_pos pa, nxt_app (fun q => n1 (List.mem_filter.mp q).1)]
  have := headD_filter (p := p) (l := l2 ++ l1 ++ [a]) (by simp) e pb
  rw [List.filter_append, List.filter_append, List.filter_cons_of_pos pa, List.filter_nil] at this
  exact this
theorem nxt_ne2 {r : List Int} (nd : r.Nodup) {a c : Int} (ha : a ∈ r) (hc : c ∈ r) (ne : a ≠ c) : nxt r a ≠ a := nxt_ne ha nd (by
  match r, ha, hc with
  | [x], ha, hc => exact absurd ((List.mem_singleton.mp ha).trans (List.mem_singleton.mp hc).symm) ne
  | _ :: _ :: _, _, _ => simp)
theorem nxt_self {r : List Int} (nd : r.Nodup) {a c : Int} (ha : a ∈ r) (e : nxt r a = a) (hc : c ∈ r) : c = a := Classical.byContradiction fun q => nxt_ne2 nd ha hc (Ne.symm q) e
theorem nxt2 {r : List Int} (nd : r.Nodup) {a b : Int} (hr : ∀ x, x ∈ r ↔ x = a ∨ x = b) (ne : a ≠ b) : nxt r a = b ∧ nxt r b = a := by
  have ha := (hr a).mpr (.inl rfl)
  have hb := (hr b).mpr (.inr rfl)
  exact ⟨((hr _).mp (nxt_mem ha)).resolve_left (nxt_ne2 nd ha hb ne), ((hr _).mp (nxt_mem hb)).resolve_right (nxt_ne2 nd hb ha (Ne.symm ne))⟩
theorem nxt3 {r : List Int} (nd : r.Nodup) {a b c : Int} (hr : ∀ x, x ∈ r ↔ x = a ∨ x = b ∨ x = c) (ab : a ≠ b) (bc : b ≠ c) (ac : a ≠ c) (e : nxt r a = b) : nxt r b = c ∧ nxt r c = a := by
  have ha := (hr a).mpr (.inl rfl)
  have hb := (hr b).mpr (.inr (.inl rfl))
  have hc := (hr c).mpr (.inr (.inr rfl))
  have c1 : nxt r c ≠ c := nxt_ne2 nd hc ha (Ne.symm ac)
  have c2 : nxt r c ≠ b := fun q => ac (nxt_inj nd ha hc (e.trans q.symm))
  have ca : nxt r c = a := by
    rcases (hr _).mp (nxt_mem hc) with h | h | h
    · exact h
    · exact absurd h c2
    · exact absurd h c1
  have b1 : nxt r b ≠ b := nxt_ne2 nd hb hc bc
  have b2 : nxt r b ≠ a := fun q => bc (nxt_inj nd hb hc (q.trans ca.symm))
  refine ⟨?_, ca⟩
  rcases (hr _).mp (nxt_mem hb) with h | h | h
  · exact absurd h b2
  · exact absurd h b1
  · exact h
set_option maxHeartbeats 4000000 in
/-- two ties never cross within a face -/
theorem no_cross {W : WL} (w : Web W) (f : Flt W) {X P Q Y : Int} (xp : P ∈ rowsAt W X) (pq : Q ∈ rowsAt W P) (qy : Y ∈ rowsAt W Q) (e1 : nxt (rowsAt W P) X = Q) (e2 : nxt (rowsAt W Q) P = Y) (xq : Q ∈ rowsAt W X) (py : Y ∈ rowsAt W P) (nxy : X ≠ Y) : False := by
  have n1 : X ≠ P := fun q => (rowsAt_ok w X).2 (q ▸ xp)
  have n2 : P ≠ Q := fun q => (rowsAt_ok w P).2 (q ▸ pq)
  have n3 : Q ≠ Y := fun q => (rowsAt_ok w Q).2 (q ▸ qy)
  have n4 : X ≠ Q := fun q => (rowsAt_ok w X).2 (q ▸ xq)
  have n5 : P ≠ Y := fun q => (rowsAt_ok w P).2 (q ▸ py)
  have S0 : ∃ S : List Int, S = [X, P, Q, Y] := ⟨_, rfl⟩
  obtain ⟨S, hS⟩ := S0
  have inS : ∀ x, x ∈ S ↔ x = X ∨ x = P ∨ x = Q ∨ x = Y := fun x => by rw [hS]; simp
  have nd : S.Nodup := by rw [hS]; simp [n1, n2, n3, n4, n5, nxy]
  have hk : ∀ p ∈ S, p ∈ keysOf' W := fun p hp => by
    rcases (inS p).mp hp with rfl | rfl | rfl | rfl
    · exact rowsAt_key xp
    · exact rowsAt_key pq
    · exact rowsAt_key qy
    · exact rowsAt_key (rowsS w qy)
  have w1 := withF_web w nd
  have f1 := f.within w nd hk
  have w2 : Web (cutW (withF W S S) X Y) := withoutW_web w1 _
  have f2 : Flt (cutW (withF W S S) X Y) := f1.without w1 _
  have mem1 : ∀ x y, y ∈ rowsAt (withF W S S) x ↔ x ∈ S ∧ y ∈ S ∧ y ∈ rowsAt W x := fun x y => by
    have : rowsAt (withF W S S) x = if x ∈ S then (rowsAt W x).filter fun q => decide (q ∈ S) else [] := by
      show (rowOf (withF W S S) x).getD [] = _
      rw [rowOf_withF]; split <;> rfl
    rw [this]
    split
    · rename_i h; simp [h, and_comm]
    · rename_i h; simp [h]
  have mem : ∀ x y, y ∈ rowsAt (cutW (withF W S S) X Y) x ↔ (x ∈ S ∧ y ∈ S ∧ y ∈ rowsAt W x) ∧ ¬ ((x = X ∧ y = Y) ∨ (x = Y ∧ y = X)) := fun x y => by rw [cut_mem, mem1]
  have ks : keysOf' (cutW (withF W S S) X Y) = S := by rw [cut_keys, withF_keys]
  have sX := (inS X).mpr (.inl rfl)
  have sP := (inS P).mpr (.inr (.inl rfl))
  have sQ := (inS Q).mpr (.inr (.inr (.inl rfl)))
  have sY := (inS Y).mpr (.inr (.inr (.inr rfl)))
  have rP : ∀ u, u ≠ X → u ≠ Y → u ∈ S → rowsAt (cutW (withF W S S) X Y) u = (rowsAt W u).filter fun q => decide (q ∈ S) := fun u h1 h2 hu => by
    rw [cut_other h1 h2]
    show (rowOf (withF W S S) u).getD [] = _
    rw [rowOf_withF, if_pos hu]; rfl
  have kP : nxt (rowsAt (cutW (withF W S S) X Y) P) X = Q := by
    rw [rP P (Ne.symm n1) n5 sP]
    exact nxt_filter (rowsS w xp) (decide_eq_true sX) e1 (decide_eq_true sQ)
  have kQ : nxt (rowsAt (cutW (withF W S S) X Y) Q) P = Y := by
    rw [rP Q (Ne.symm n4) n3 sQ]
    exact nxt_filter (rowsS w pq) (decide_eq_true sP) e2 (decide_eq_true sY)
  generalize hV : cutW (withF W S S) X Y = V at *
  have mX : ∀ x, x ∈ rowsAt V X ↔ x = P ∨ x = Q := fun x => by
    rw [mem]
    constructor
    · rintro ⟨⟨_, h, h2⟩, h3⟩
      rcases (inS x).mp h with rfl | rfl | rfl | rfl
      · exact absurd h2 (rowsAt_ok w _).2
      · exact .inl rfl
      · exact .inr rfl
      · exact absurd (.inl ⟨rfl, rfl⟩) h3
    · rintro (rfl | rfl)
      · exact ⟨⟨sX, sP, xp⟩, fun h => h.elim (fun h => n5 h.2) fun h => nxy h.1⟩
      · exact ⟨⟨sX, sQ, xq⟩, fun h => h.elim (fun h => n3 h.2) fun h => nxy h.1⟩
  have mY : ∀ x, x ∈ rowsAt V Y ↔ x = P ∨ x = Q := fun x => by
    rw [mem]
    constructor
    · rintro ⟨⟨_, h, h2⟩, h3⟩
      rcases (inS x).mp h with rfl | rfl | rfl | rfl
      · exact absurd (.inr ⟨rfl, rfl⟩) h3
      · exact .inl rfl
      · exact .inr rfl
      · exact absurd h2 (rowsAt_ok w _).2
    · rintro (rfl | rfl)
      · exact ⟨⟨sY, sP, rowsS w py⟩, fun h => h.elim (fun h => nxy h.1.symm) fun h => n1 h.2.symm⟩
      · exact ⟨⟨sY, sQ, rowsS w qy⟩, fun h => h.elim (fun h => nxy h.1.symm) fun h => n4 h.2.symm⟩
  have mP : ∀ x, x ∈ rowsAt V P ↔ x = X ∨ x = Q ∨ x = Y := fun x => by
    rw [mem]
    constructor
    · rintro ⟨⟨_, h, h2⟩, h3⟩
      rcases (inS x).mp h with rfl | rfl | rfl | rfl
      · exact .inl rfl
      · exact absurd h2 (rowsAt_ok w _).2
      · exact .inr (.inl rfl)
      · exact .inr (.inr rfl)
    · have no : ∀ y, ¬ ((P = X ∧ y = Y) ∨ (P = Y ∧ y = X)) := fun y h => h.elim (fun h => n1 h.1.symm) fun h => n5 h.1
      rintro (rfl | rfl | rfl)
      · exact ⟨⟨sP, sX, rowsS w xp⟩, no _⟩
      · exact ⟨⟨sP, sQ, pq⟩, no _⟩
      · exact ⟨⟨sP, sY, py⟩, no _⟩
  have mQ : ∀ x, x ∈ rowsAt V Q ↔ x = P ∨ x = Y ∨ x = X := fun x => by
    rw [mem]
    constructor
    · rintro ⟨⟨_, h, h2⟩, h3⟩
      rcases (inS x).mp h with rfl | rfl | rfl | rfl
      · exact .inr (.inr rfl)
      · exact .inl rfl
      · exact absurd h2 (rowsAt_ok w _).2
      · exact .inr (.inl rfl)
    · have no : ∀ y, ¬ ((Q = X ∧ y = Y) ∨ (Q = Y ∧ y = X)) := fun y h => h.elim (fun h => n4 h.1.symm) fun h => n3 h.1
      rintro (rfl | rfl | rfl)
      · exact ⟨⟨sQ, sP, rowsS w pq⟩, no _⟩
      · exact ⟨⟨sQ, sY, qy⟩, no _⟩
      · exact ⟨⟨sQ, sX, rowsS w xq⟩, no _⟩
  have ok := fun u => (rowsAt_ok w2 u).1
  obtain ⟨x1, x2⟩ := nxt2 (ok X) mX n2
  obtain ⟨y1, y2⟩ := nxt2 (ok Y) mY n2
  obtain ⟨p1, p2⟩ := nxt3 (ok P) mP n4 n3 nxy kP
  obtain ⟨q1, q2⟩ := nxt3 (ok Q) mQ n5 (Ne.symm nxy) (Ne.symm n2 |> fun _ => Ne.symm n1) kQ
  have cy : Pth (behindF V) [(X, P), (P, Q), (Q, Y), (Y, P), (P, X), (X, Q), (Q, P), (P, Y), (Y, Q), (Q, X)] (X, P) := by
    simp only [Pth, List.headD_cons, List.headD_nil, behindF, kP, kQ, x1, x2, y1, y2, p1, p2, q1, q2, and_self, and_true]
  have pm : ([[(X, P), (P, Q), (Q, Y), (Y, P), (P, X), (X, Q), (Q, P), (P, Y), (Y, Q), (Q, X)]] : List (List (Int × Int))).flatten.Perm (stepsOf V) := by
    refine (List.perm_ext_iff_of_nodup ?_ (steps_nodup w2)).mpr fun z => ?_
    · simp only [List.flatten_cons, List.flatten_nil, List.append_nil, List.nodup_cons, List.mem_cons, Prod.mk.injEq, List.not_mem_nil, n1, n2, n3, n4, n5, nxy, Ne.symm n1, Ne.symm n2, Ne.symm n3, Ne.symm n4, Ne.symm n5, Ne.symm nxy, and_false, false_and, and_true, true_and, or_false, not_false_iff, List.nodup_nil]
    · obtain ⟨a, b⟩ := z
      rw [mem_st]
      simp only [List.flatten_cons, List.flatten_nil, List.append_nil, List.mem_cons, Prod.mk.injEq, List.not_mem_nil, or_false]
      by_cases a1 : a = X
      · subst a1; rw [mX]; simp only [n1, n2, n3, n4, n5, nxy, Ne.symm n1, Ne.symm n2, Ne.symm n3, Ne.symm n4, Ne.symm n5, Ne.symm nxy, true_and, false_and, false_or, or_false]
      · by_cases a2 : a = Y
        · subst a2; rw [mY]; simp only [n1, n2, n3, n4, n5, nxy, Ne.symm n1, Ne.symm n2, Ne.symm n3, Ne.symm n4, Ne.symm n5, Ne.symm nxy, true_and, false_and, false_or, or_false]
        · by_cases a3 : a = P
          · subst a3; rw [mP]; simp only [n1, n2, n3, n4, n5, nxy, Ne.symm n1, Ne.symm n2, Ne.symm n3, Ne.symm n4, Ne.symm n5, Ne.symm nxy, true_and, false_and, false_or, or_false]; omega
          · by_cases a4 : a = Q
            · subst a4; rw [mQ]; simp only [n1, n2, n3, n4, n5, nxy, Ne.symm n1, Ne.symm n2, Ne.symm n3, Ne.symm n4, Ne.symm n5, Ne.symm nxy, true_and, false_and, false_or, or_false]; omega
            · have : ¬ b ∈ rowsAt V a := fun h => by
                have := ((mem a b).mp h).1.1
                rcases (inS a).mp this with h | h | h | h
                · exact a1 h
                · exact a3 h
                · exact a4 h
                · exact a2 h
              simp only [this, iff_false, a1, a2, a3, a4, false_and, or_false, not_false_iff]
  have cv : Cov (behindF V) (stepsOf V) [[(X, P), (P, Q), (Q, Y), (Y, P), (P, X), (X, Q), (Q, P), (P, Y), (Y, Q), (Q, X)]] := ⟨fun c hc => by
    rw [List.mem_singleton.mp hc]; exact ⟨_, _, rfl, cy⟩, pm⟩
  obtain ⟨L, R, c, s, le⟩ := f2
  have l1 := cov_len _ (steps_nodup w2) cv c
  have l2 := pm.length_eq
  simp at l1 l2
  have l3 : V.length = 4 := by rw [← keys_len, ks, hS]; rfl
  have iso : isoN V = 0 := by
    unfold isoN
    refine List.length_eq_zero_iff.mpr (List.filter_eq_nil_iff.mpr fun x hx => ?_)
    rw [ks] at hx
    have : ∃ y, y ∈ rowsAt V x := by
      rcases (inS x).mp hx with rfl | rfl | rfl | rfl
      · exact ⟨P, (mX P).mpr (.inl rfl)⟩
      · exact ⟨Q, (mP Q).mpr (.inr (.inl rfl))⟩
      · exact ⟨P, (mQ P).mpr (.inl rfl)⟩
      · exact ⟨P, (mY P).mpr (.inl rfl)⟩
    obtain ⟨y, hy⟩ := this
    intro q
    rw [List.isEmpty_iff.mp q] at hy; cases hy
  obtain ⟨r, hr, _⟩ := s X (by rw [ks]; exact sX)
  have := List.length_pos_of_mem hr
  omega
/-! ### the walk of a face, and a corner of it that can be cut -/
theorem pth_atF {α : Type} {φ : α → α} : ∀ (l : List α) (z : α), Pth φ l z → ∀ i x, l[i]? = some x → φ x = (l[i + 1]?).getD z
  | [], _, _, i, x, e => by cases e
  | y :: t, z, p, 0, x, e => by
    cases e
    rw [p.1]; cases t <;> rfl
  | y :: t, z, p, i + 1, x, e => by
    have := pth_atF t z p.2 i x e
    simpa using this
theorem cyc_atF {α : Type} {φ : α → α} {c : List α} (h : Cyc φ c) {i : Nat} {x : α} (e : c[i]? = some x) : c[(i + 1) % c.length]? = some (φ x) := by
  obtain ⟨y, t, ec, p⟩ := h
  have := pth_atF c y p i x e
  have hi := (List.getElem?_eq_some_iff.mp e).1
  by_cases l : i + 1 < c.length
  · rw [Nat.mod_eq_of_lt l, this, List.getElem?_eq_getElem l]; rfl
  · rw [show i + 1 = c.length by omega, Nat.mod_self, this, show i + 1 = c.length by omega, List.getElem?_eq_none (Nat.le_refl _), ec]; rfl
theorem face_cyc1 {W : WL} (w : Web W) {s : Int × Int} (hs : s ∈ stepsOf W) : ∃ t, faceOf W s = s :: t ∧ Pth (behindF W) (s :: t) s ∧ (s :: t).Nodup ∧ ∀ x ∈ s :: t, x ∈ stepsOf W := by
  have fo := faceOf_ok w .nil hs (by simp)
  obtain ⟨⟨t, e⟩, p⟩ := fc_pth w .nil _ _ _ (.start hs (by simp)) (show (stepsOf W).length < (stepsOf W).length + 1 + [s].length by simp only [List.length_singleton]; omega) ⟨[], rfl⟩ ⟨rfl, trivial⟩
  have e' : faceOf W s = s :: t := e
  have p' : Pth (behindF W) (faceOf W s) s := p
  rw [e'] at p'
  exact ⟨t, e', p', e' ▸ fo.nd, fun x hx => fo.sub x (e' ▸ hx)⟩
theorem face_eq {W : WL} (w : Web W) {s : Int × Int} {t : List (Int × Int)} (hs : s ∈ stepsOf W) (p : Pth (behindF W) (s :: t) s) (nd : (s :: t).Nodup) : faceOf W s = s :: t := by
  obtain ⟨t', e, p', nd', _⟩ := face_cyc1 w hs
  rw [e, pth_same p'.2 p.2 (p'.1.symm.trans p.1) (List.nodup_cons.mp nd').1 (List.nodup_cons.mp nd).1]
/-- whether the corner at a place of a face's walk can be cut -/
def cutB (W : WL) (F : List (Int × Int)) (i : Nat) : Bool := !decide ((F.getD i (0, 0)).1 = (F.getD ((i + 2) % F.length) (0, 0)).1) && !decide ((F.getD ((i + 2) % F.length) (0, 0)).1 ∈ rowsAt W (F.getD i (0, 0)).1)
theorem cutB_no {W : WL} {F : List (Int × Int)} {i : Nat} {x y : Int × Int} (ex : F[i]? = some x) (ey : F[(i + 2) % F.length]? = some y) (h : cutB W F i = false) : x.1 = y.1 ∨ y.1 ∈ rowsAt W x.1 := by
  unfold cutB at h
  rw [List.getD_eq_getElem?_getD, List.getD_eq_getElem?_getD, ex, ey] at h
  by_cases q : x.1 = y.1
  · exact .inl q
  · exact .inr (by simpa [q] using h)
theorem corner_found {W : WL} (w : Web W) (f : Flt W) {s : Int × Int} (hs : s ∈ stepsOf W) (l4 : 4 ≤ (faceOf W s).length) : ∃ i, i < (faceOf W s).length ∧ cutB W (faceOf W s) i = true := by
  refine Classical.byContradiction fun no => ?_
  have no : ∀ i, i < (faceOf W s).length → cutB W (faceOf W s) i = false := fun i hi => by
    cases e : cutB W (faceOf W s) i with
    | false => rfl
    | true => exact absurd ⟨i, hi, e⟩ no
  obtain ⟨t, ef, p, nd, sub⟩ := face_cyc1 w hs
  have cy : Cyc (behindF W) (faceOf W s) := ⟨s, t, ef, ef ▸ p⟩
  have g0 : (faceOf W s)[0]? = some s := by rw [ef]; rfl
  have g1 := cyc_atF cy g0
  rw [Nat.mod_eq_of_lt (by omega)] at g1
  have g2 := cyc_atF cy g1
  rw [Nat.mod_eq_of_lt (by omega)] at g2
  have g3 := cyc_atF cy g2
  rw [Nat.mod_eq_of_lt (by omega)] at g3
  have g4 := cyc_atF cy g3
  have c0 := cutB_no g0 (by rw [Nat.mod_eq_of_lt (by omega)]; exact g2) (no 0 (by omega))
  have c1 := cutB_no g1 (by rw [Nat.mod_eq_of_lt (by omega)]; exact g3) (no 1 (by omega))
  have c2 := cutB_no g2 g4 (no 2 (by omega))
  have ndF : (faceOf W s).Nodup := ef ▸ nd
  have un : ∀ {i j : Nat} {x : Int × Int}, (faceOf W s)[i]? = some x → (faceOf W s)[j]? = some x → i < (faceOf W s).length → i = j := fun {i j x} h1 h2 hi => by
    exact (List.getElem?_inj hi ndF).mp (h1.trans h2.symm)
  have n02 : behindF W (behindF W s) ≠ s := fun q => by
    rw [q] at g2
    have := un g0 g2 (by omega); omega
  have n03 : behindF W (behindF W (behindF W s)) ≠ s := fun q => by
    rw [q] at g3
    have := un g0 g3 (by omega); omega
  clear g0 g1 g2 g3 g4 un no
  obtain ⟨a, b⟩ := s
  have ab : b ∈ rowsAt W a := mem_st.mp hs
  have s1 := behind_mem w hs
  have s2 := behind_mem w s1
  have s3 := behind_mem w s2
  have e1 : behindF W (a, b) = (b, nxt (rowsAt W b) a) := rfl
  generalize hc : nxt (rowsAt W b) a = c at *
  rw [e1] at s1 s2 s3 c0 c1 c2 n02 n03
  have e2 : behindF W (b, c) = (c, nxt (rowsAt W c) b) := rfl
  generalize hd : nxt (rowsAt W c) b = d at *
  rw [e2] at s2 s3 c0 c1 c2 n02 n03
  have e3 : behindF W (c, d) = (d, nxt (rowsAt W d) c) := rfl
  generalize he : nxt (rowsAt W d) c = e at *
  rw [e3] at s3 c1 c2 n03
  have e4 : (behindF W (d, e)).1 = e := rfl
  rw [e4] at c2
  have bc : c ∈ rowsAt W b := mem_st.mp s1
  have cd : d ∈ rowsAt W c := mem_st.mp s2
  have de : e ∈ rowsAt W d := mem_st.mp s3
  have c0 : a = c ∨ c ∈ rowsAt W a := c0
  have c1 : b = d ∨ d ∈ rowsAt W b := c1
  have c2 : c = e ∨ e ∈ rowsAt W c := c2
  have ok := fun u => rowsAt_ok w u
  have nac : a ≠ c := fun q => by
    subst q
    have one := fun {x} h => nxt_self (ok b).1 (rowsS w ab) hc (c := x) h
    rcases c1 with q | h
    · exact n02 (congrArg (Prod.mk a) (show d = b from Eq.symm q))
    · have := one h
      exact (ok a).2 (this ▸ cd)
  have ac := c0.resolve_left nac
  have nbd : b ≠ d := fun q => by
    subst q
    have := nxt_self (ok c).1 (rowsS w bc) hd (rowsS w ac)
    exact (ok a).2 (this ▸ ab)
  have bd := c1.resolve_left nbd
  by_cases nad : a = d
  · subst nad
    have neb : e ≠ b := fun q => n03 (congrArg (Prod.mk a) q)
    have nce : c ≠ e := fun q => by
      have := nxt_self (ok a).1 (rowsS w cd) (he.trans q.symm) ab
      exact (ok b).2 (this ▸ bc)
    exact no_cross w f bc cd de hd he bd (c2.resolve_left nce) (Ne.symm neb)
  · exact no_cross w f ab bc cd hc hd ac bd nad
/-! ### a corner is cut -/
def T3 (W : WL) (z : Int × Int) : Prop := behindF W (behindF W (behindF W z)) = z
structure CutOk (W V : WL) (F : List (Int × Int)) (u v : Int) : Prop where
  web : Web V
  flt : Flt V
  mem : (u, v) ∈ stepsOf V
  len : (faceOf V (u, v)).length + 1 = F.length
  all : ∀ z ∈ stepsOf V, z ∈ faceOf V (u, v) ∨ T3 V z ∨ (z ∈ stepsOf W ∧ z ∉ F)
  old : ∀ z ∈ stepsOf W, z ∉ F → T3 W z → T3 V z
theorem cut_one {W : WL} (w : Web W) (kl : W.length ≤ 900) (f : Flt W) {s : Int × Int} (hs : s ∈ stepsOf W) (l4 : 4 ≤ (faceOf W s).length) {x u m v : Int} (hx : (x, u) ∈ faceOf W s) (e1 : behindF W (x, u) = (u, m)) (e2 : behindF W (u, m) = (m, v)) (ne : u ≠ v) (nt : v ∉ rowsAt W u) :
    u ∈ keysOf' W ∧ v ∈ keysOf' W ∧ x ∈ rowsAt W u ∧ m ∈ rowsAt W v ∧ CutOk W (putW W u v (some x) (some m)) (faceOf W s) u v := by
  obtain ⟨t0, ef, p0, nd0, sub0⟩ := face_cyc1 w hs
  have cy : Cyc (behindF W) (faceOf W s) := ⟨s, t0, ef, ef ▸ p0⟩
  have ndF : (faceOf W s).Nodup := ef ▸ nd0
  have subF : ∀ z ∈ faceOf W s, z ∈ stepsOf W := fun z hz => sub0 z (ef ▸ hz)
  obtain ⟨t, p, pm⟩ := cy.turn hx
  have lf := pm.length_eq
  match t, p, pm, lf with
  | [], p, pm, lf => simp at lf; omega
  | [a], p, pm, lf => simp at lf; omega
  | [a, b], p, pm, lf => simp at lf; omega
  | a :: b :: c :: t2, p, pm, lf =>
  have ea : a = (u, m) := (show behindF W (x, u) = a from p.1).symm.trans e1
  subst ea
  have eb : b = (m, v) := (show behindF W (u, m) = b from p.2.1).symm.trans e2
  subst eb
  have pc : behindF W (m, v) = c := p.2.2.1
  have p2 : Pth (behindF W) (c :: t2) (x, u) := p.2.2.2
  have nd := pm.nodup_iff.mp ndF
  have sub : ∀ z ∈ (x, u) :: (u, m) :: (m, v) :: c :: t2, z ∈ stepsOf W := fun z hz => subF z (pm.mem_iff.mpr hz)
  have xu : u ∈ rowsAt W x := mem_st.mp (sub _ (by simp))
  have um : m ∈ rowsAt W u := mem_st.mp (sub (u, m) (by simp))
  have mv : v ∈ rowsAt W m := mem_st.mp (sub (m, v) (by simp))
  have hu := rowsAt_key um
  have hv := rowsAt_key (rowsS w mv)
  have ux := rowsS w xu
  have vm := rowsS w mv
  have pa : placeB (rowsAt W u) (some x) = true := decide_eq_true ux
  have pb : placeB (rowsAt W v) (some m) = true := decide_eq_true vm
  refine ⟨hu, hv, ux, vm, ?_⟩
  have wV := putW_web w hu hv ne nt pa pb
  have fx : faceOf W (x, u) = (x, u) :: (u, m) :: (m, v) :: c :: t2 := face_eq w (sub _ (by simp)) p nd
  obtain ⟨_, _, ex, ey, h1, _⟩ := let_same w hu hv ne nt pa pb kl f ((Rch.refl.step um).step mv)
  cases ex; cases ey
  have fV := (h1 (by rw [fx]; simp)).1
  have bo := fun {z} hz => put_behind w hu hv ne nt pa pb (z := z) hz
  have be : behindF (putW W u v (some x) (some m)) (u, v) = behindF W (m, v) := put_behind_e w hu hv ne nt pa pb
  have be' : behindF (putW W u v (some x) (some m)) (v, u) = behindF W (x, u) := put_behind_e' w hu hv ne nt pa pb
  have sp := put_stepsP w hu hv ne nt pa pb
  have on := fun {z} hz => old_ne w hu hv ne nt pa pb (z := z) hz
  generalize hV : putW W u v (some x) (some m) = V at *
  have bx : behindF V (x, u) = (u, v) := by rw [bo (sub _ (by simp)), if_pos ⟨rfl, rfl⟩]
  have bm : behindF V (m, v) = (v, u) := by rw [bo (sub (m, v) (by simp)), if_neg (fun h => ne h.1.symm), if_pos ⟨rfl, rfl⟩]
  have keep : ∀ z ∈ stepsOf W, z ≠ (x, u) → z ≠ (m, v) → behindF V z = behindF W z := fun z hz q1 q2 => by
    rw [bo hz, if_neg (fun h => q1 (Prod.ext (Option.some.inj h.2).symm h.1)), if_neg fun h => q2 (Prod.ext (Option.some.inj h.2).symm h.1)]
  have n1 := List.nodup_cons.mp nd
  have n2 := List.nodup_cons.mp n1.2
  have n3 := List.nodup_cons.mp n2.2
  have mem : (u, v) ∈ stepsOf V := sp.mem_iff.mpr (by simp)
  have kc : ∀ z ∈ c :: t2, behindF V z = behindF W z := fun z hz => keep z (sub z (.tail _ (.tail _ (.tail _ hz)))) (fun q => n1.1 (q ▸ .tail _ (.tail _ hz))) fun q => n3.1 (q ▸ hz)
  have pV : Pth (behindF V) ((u, v) :: ((c :: t2) ++ [(x, u)])) (u, v) := by
    refine ⟨by rw [be, pc]; rfl, ?_⟩
    rw [pth_append]
    exact ⟨pth_congr _ kc p2, bx, trivial⟩
  have ndV : ((u, v) :: ((c :: t2) ++ [(x, u)])).Nodup := by
    refine List.nodup_cons.mpr ⟨fun q => ?_, ?_⟩
    · have : (u, v) ∈ stepsOf W := by
        rcases List.mem_append.mp q with q | q
        · exact sub _ (.tail _ (.tail _ (.tail _ q)))
        · exact sub _ (by rw [List.mem_singleton.mp q]; simp)
      exact (on this).1 rfl
    · refine List.nodup_append.mpr ⟨n3.2, by simp, fun y hy z hz q => ?_⟩
      rw [List.mem_singleton.mp hz] at q
      exact n1.1 (q ▸ .tail _ (.tail _ hy))
  have fe := face_eq wV mem pV ndV
  have t1 : T3 V (u, m) := by
    have : behindF V (u, m) = (m, v) := by rw [keep _ (sub (u, m) (by simp)) (fun q => n1.1 (q ▸ by simp)) (fun q => n2.1 (q ▸ by simp)), e2]
    unfold T3; rw [this, bm, be', e1]
  have t2' : T3 V (m, v) := by
    have : behindF V (u, m) = (m, v) := by rw [keep _ (sub (u, m) (by simp)) (fun q => n1.1 (q ▸ by simp)) (fun q => n2.1 (q ▸ by simp)), e2]
    unfold T3; rw [bm, be', e1, this]
  have t3 : T3 V (v, u) := by
    have : behindF V (u, m) = (m, v) := by rw [keep _ (sub (u, m) (by simp)) (fun q => n1.1 (q ▸ by simp)) (fun q => n2.1 (q ▸ by simp)), e2]
    unfold T3; rw [be', e1, this, bm]
  have clo : ∀ z ∈ stepsOf W, behindF W z ∈ faceOf W s → z ∈ faceOf W s := fun z hz h => by
    obtain ⟨i, hi⟩ := List.mem_iff_getElem?.mp h
    have hi' := (List.getElem?_eq_some_iff.mp hi).1
    -- the one before
    have : ∃ y ∈ faceOf W s, behindF W y = behindF W z := by
      cases i with
      | zero =>
        have gl : (faceOf W s)[(faceOf W s).length - 1]? = some ((faceOf W s)[(faceOf W s).length - 1]'(by omega)) := List.getElem?_eq_getElem _
        have := cyc_atF cy gl
        rw [show (faceOf W s).length - 1 + 1 = (faceOf W s).length by omega, Nat.mod_self, hi] at this
        exact ⟨_, List.getElem_mem _, (Option.some.inj this).symm⟩
      | succ i =>
        have gl : (faceOf W s)[i]? = some ((faceOf W s)[i]'(by omega)) := List.getElem?_eq_getElem _
        have := cyc_atF cy gl
        rw [Nat.mod_eq_of_lt (by omega), hi] at this
        exact ⟨_, List.getElem_mem _, (Option.some.inj this).symm⟩
    obtain ⟨y, hy, e⟩ := this
    exact behind_inj w (subF y hy) hz e ▸ hy
  have nF : ∀ z, z ∉ faceOf W s → z ≠ (x, u) ∧ z ≠ (m, v) := fun z h => ⟨fun q => h (q ▸ hx), fun q => h (q ▸ pm.mem_iff.mpr (by simp))⟩
  refine ⟨wV, fV, mem, ?_, fun z hz => ?_, fun z hz hn h3 => ?_⟩
  · rw [fe, pm.length_eq]; simp
  · by_cases hF : z ∈ faceOf W s
    · have := pm.mem_iff.mp hF
      rcases List.mem_cons.mp this with rfl | h
      · exact .inl (by rw [fe]; simp)
      · rcases List.mem_cons.mp h with rfl | h
        · exact .inr (.inl t1)
        · rcases List.mem_cons.mp h with rfl | h
          · exact .inr (.inl t2')
          · exact .inl (by rw [fe]; exact .tail _ (List.mem_append_left _ h))
    · rcases List.mem_cons.mp (sp.mem_iff.mp hz) with rfl | h
      · exact .inl (by rw [fe]; simp)
      · rcases List.mem_cons.mp h with rfl | h
        · exact .inr (.inl t3)
        · exact .inr (.inr ⟨h, hF⟩)
  · have b1 := behind_mem w hz
    have b2 := behind_mem w b1
    have m1 : behindF W z ∉ faceOf W s := fun q => hn (clo z hz q)
    have m2 : behindF W (behindF W z) ∉ faceOf W s := fun q => m1 (clo _ b1 q)
    unfold T3 at h3 ⊢
    rw [keep z hz (nF z hn).1 (nF z hn).2, keep _ b1 (nF _ m1).1 (nF _ m1).2, keep _ b2 (nF _ m2).1 (nF _ m2).2, h3]
/-! ### ties put one behind another -/
inductive Puts (W : WL) : List (Int × Int) → WL → Prop
  | nil : Puts W [] W
  | snoc {N : List (Int × Int)} {V : WL} {u v : Int} {a b : Option Int} : Puts W N V → u ∈ keysOf' V → v ∈ keysOf' V → u ≠ v → v ∉ rowsAt V u → placeB (rowsAt V u) a = true → placeB (rowsAt V v) b = true → Puts W (N ++ [(u, v)]) (putW V u v a b)
theorem Puts.trans {W V U : WL} {N M : List (Int × Int)} (h : Puts W N V) (k : Puts V M U) : Puts W (N ++ M) U := by
  induction k with
  | nil => rw [List.append_nil]; exact h
  | snoc _ h1 h2 h3 h4 h5 h6 ih => rw [← List.append_assoc]; exact ih.snoc h1 h2 h3 h4 h5 h6
def nmP (p : Int × Int) : Int × Int := nameOf p.1 p.2
theorem wo_wo (N M : List (Int × Int)) (V : WL) : withoutW N (withoutW M V) = withoutW (N ++ M) V := by
  unfold withoutW mapRows
  rw [List.map_map]
  refine List.map_congr_left fun p _ => ?_
  simp only [Function.comp_apply, List.filter_filter]
  congr 1
  refine List.filter_congr fun q _ => ?_
  simp [List.mem_append]
theorem wo_nil (V : WL) : withoutW [] V = V := by
  unfold withoutW mapRows
  have : ∀ r : List Int, (r.filter fun _ => true) = r := fun r => List.filter_eq_self.mpr fun _ _ => rfl
  simp [this]
structure PutsOk (W V : WL) (N : List (Int × Int)) : Prop where
  web : Web V
  keys : keysOf' V = keysOf' W
  mem : ∀ x y, y ∈ rowsAt V x ↔ y ∈ rowsAt W x ∨ (x, y) ∈ N ∨ (y, x) ∈ N
  new : ∀ p ∈ N, p.1 ≠ p.2 ∧ p.2 ∉ rowsAt W p.1
  nd : (N.map nmP).Nodup
  wo : withoutW (N.map nmP) V = W
theorem Puts.ok {W V : WL} {N : List (Int × Int)} (w : Web W) (h : Puts W N V) : PutsOk W V N := by
  induction h with
  | nil => exact ⟨w, rfl, by simp, by simp, by simp, wo_nil W⟩
  | @snoc N V u v a b _ hu hv ne nt pa pb ih =>
    have mem := fun {x y : Int} => putW_mem ih.web hu hv ne nt pa pb (x := x) (y := y)
    refine ⟨putW_web ih.web hu hv ne nt pa pb, by rw [putW_keys hu hv, ih.keys], fun x y => ?_, fun p hp => ?_, ?_, ?_⟩
    · rw [mem, ih.mem]
      simp only [List.mem_append, List.mem_singleton, Prod.mk.injEq]
      constructor
      · rintro ((h | h | h) | h | h)
        · exact .inl h
        · exact .inr (.inl (.inl h))
        · exact .inr (.inr (.inl h))
        · exact .inr (.inl (.inr h))
        · exact .inr (.inr (.inr ⟨h.2, h.1⟩))
      · rintro (h | (h | h) | (h | h))
        · exact .inl (.inl h)
        · exact .inl (.inr (.inl h))
        · exact .inr (.inl h)
        · exact .inl (.inr (.inr h))
        · exact .inr (.inr ⟨h.2, h.1⟩)
    · rcases List.mem_append.mp hp with hp | hp
      · exact ih.new p hp
      · rw [List.mem_singleton.mp hp]
        exact ⟨ne, fun q => nt ((ih.mem u v).mpr (.inl q))⟩
    · rw [List.map_append, List.map_cons, List.map_nil]
      refine List.nodup_append.mpr ⟨ih.nd, by simp, fun x hx y hy e => ?_⟩
      rw [List.mem_singleton.mp hy] at e
      subst e
      obtain ⟨p, hp, e⟩ := List.mem_map.mp hx
      refine nt ((ih.mem u v).mpr (.inr ?_))
      rcases name_iff.mp (show nameOf p.1 p.2 = nameOf u v from e) with ⟨q1, q2⟩ | ⟨q1, q2⟩
      · exact .inl (by rw [← q1, ← q2]; exact hp)
      · exact .inr (by rw [← q1, ← q2]; exact hp)
    · have pc := put_cut ih.web hu hv ne nt pa pb
      rw [cut_sym] at pc
      rw [List.map_append, ← wo_wo]
      show withoutW (N.map nmP) (cutW (putW V u v a b) u v) = W
      rw [pc, ih.wo]
/-! ### faces cut to three steps, one behind another -/
def Conn (W : WL) : Prop := ∀ x ∈ keysOf' W, ∀ y ∈ keysOf' W, Rch W x y
theorem face_len3 {W : WL} (w : Web W) (c : Conn W) (l3 : 3 ≤ W.length) {s : Int × Int} (hs : s ∈ stepsOf W) : 3 ≤ (faceOf W s).length := by
  obtain ⟨t, ef, p, nd, sub⟩ := face_cyc1 w hs
  rw [ef]
  obtain ⟨a, b⟩ := s
  have ab : b ∈ rowsAt W a := mem_st.mp hs
  match t, p with
  | [], p =>
    have : behindF W (a, b) = (a, b) := p.1
    have := (Prod.mk.inj this).1
    exact absurd (this ▸ ab) (rowsAt_ok w a).2
  | _ :: _ :: _, _ => simp only [List.length_cons]; omega
  | [y], p =>
    exfalso
    have e1 : behindF W (a, b) = y := p.1
    have e2 : behindF W y = (a, b) := p.2.1
    rw [← e1] at e2
    obtain ⟨q1, q2⟩ := Prod.mk.inj e2
    have q1 : nxt (rowsAt W b) a = a := q1
    have q2 : nxt (rowsAt W (nxt (rowsAt W b) a)) b = b := q2
    rw [q1] at q2
    have ra : ∀ x, x ∈ rowsAt W a → x = b := fun x hx => nxt_self (rowsAt_ok w a).1 ab q2 hx
    have rb : ∀ x, x ∈ rowsAt W b → x = a := fun x hx => nxt_self (rowsAt_ok w b).1 (rowsS w ab) q1 hx
    have two : ∀ x, Rch W a x → x = a ∨ x = b := fun x h => by
      induction h with
      | refl => exact .inl rfl
      | step _ m ih =>
        rcases ih with rfl | rfl
        · exact .inr (ra _ m)
        · exact .inl (rb _ m)
    have := nodup_sub_len w.nd (R := [a, b]) fun x hx => by
      rcases two x (c a (rowsAt_key ab) x hx) with h | h <;> simp [h]
    rw [keys_len] at this
    simp only [List.length_cons, List.length_nil] at this
    omega
theorem face3_T3 {W : WL} (w : Web W) {s : Int × Int} (hs : s ∈ stepsOf W) (l : (faceOf W s).length = 3) : ∀ y ∈ faceOf W s, T3 W y := fun y hy => by
  obtain ⟨t, ef, p, nd, sub⟩ := face_cyc1 w hs
  have cy : Cyc (behindF W) (faceOf W s) := ⟨s, t, ef, ef ▸ p⟩
  obtain ⟨i, hi⟩ := List.mem_iff_getElem?.mp hy
  have li := (List.getElem?_eq_some_iff.mp hi).1
  have g := cyc_atF cy (cyc_atF cy (cyc_atF cy hi))
  rw [l, show (((i + 1) % 3 + 1) % 3 + 1) % 3 = i by omega, hi] at g
  exact (Option.some.inj g).symm
theorem T3_len {W : WL} (w : Web W) (c : Conn W) (l3 : 3 ≤ W.length) {s : Int × Int} (hs : s ∈ stepsOf W) (h : T3 W s) : (faceOf W s).length = 3 := by
  have a := face_len3 w c l3 hs
  obtain ⟨t, ef, p, nd, sub⟩ := face_cyc1 w hs
  have cy : Cyc (behindF W) (faceOf W s) := ⟨s, t, ef, ef ▸ p⟩
  have g0 : (faceOf W s)[0]? = some s := by rw [ef]; rfl
  have g1 := cyc_atF cy g0
  rw [Nat.mod_eq_of_lt (by omega)] at g1
  have g2 := cyc_atF cy g1
  rw [Nat.mod_eq_of_lt (by omega)] at g2
  have g3 := cyc_atF cy g2
  unfold T3 at h
  rw [h] at g3
  have nF : (faceOf W s).Nodup := ef ▸ nd
  have := (List.getElem?_inj (i := 0) (by omega) nF).mp (g0.trans g3.symm)
  by_cases q : (faceOf W s).length = 3
  · exact q
  · rw [Nat.mod_eq_of_lt (by omega)] at this; omega
/-- while a face is cut -/
structure CutInv (W : WL) (s : Int × Int) (V : WL) (z : Int × Int) (M : List (Int × Int)) : Prop where
  puts : Puts W M V
  flt : Flt V
  mem : z ∈ stepsOf V
  all : ∀ y ∈ stepsOf V, y ∈ faceOf V z ∨ T3 V y ∨ (y ∈ stepsOf W ∧ y ∉ faceOf W s ∧ ¬ T3 W y)
  len : 3 ≤ (faceOf V z).length
theorem CutInv.start {W : WL} (w : Web W) (f : Flt W) (c : Conn W) (l3 : 3 ≤ W.length) {s : Int × Int} (hs : s ∈ stepsOf W) : CutInv W s W s [] where
  puts := .nil
  flt := f
  mem := hs
  all := fun y hy => by
    by_cases q : y ∈ faceOf W s
    · exact .inl q
    · by_cases q2 : T3 W y
      · exact .inr (.inl q2)
      · exact .inr (.inr ⟨hy, q, q2⟩)
  len := face_len3 w c l3 hs
theorem CutInv.step {W V : WL} {s z : Int × Int} {M : List (Int × Int)} (w : Web W) (kl : W.length ≤ 900) (I : CutInv W s V z M) (l4 : 4 ≤ (faceOf V z).length) {x u m v : Int} (hx : (x, u) ∈ faceOf V z) (e1 : behindF V (x, u) = (u, m)) (e2 : behindF V (u, m) = (m, v)) (ne : u ≠ v) (nt : v ∉ rowsAt V u) :
    u ∈ keysOf' V ∧ v ∈ keysOf' V ∧ x ∈ rowsAt V u ∧ m ∈ rowsAt V v ∧ CutInv W s (putW V u v (some x) (some m)) (u, v) (M ++ [(u, v)]) ∧ (faceOf (putW V u v (some x) (some m)) (u, v)).length + 1 = (faceOf V z).length := by
  have ok := I.puts.ok w
  have kv : V.length ≤ 900 := by rw [← keys_len, ok.keys, keys_len]; exact kl
  obtain ⟨hu, hv, hxu, hmv, co⟩ := cut_one ok.web kv I.flt I.mem l4 hx e1 e2 ne nt
  refine ⟨hu, hv, hxu, hmv, ⟨I.puts.snoc hu hv ne nt (decide_eq_true hxu) (decide_eq_true hmv), co.flt, co.mem, fun y hy => ?_, by have := co.len; omega⟩, co.len⟩
  rcases co.all y hy with h | h | ⟨h1, h2⟩
  · exact .inl h
  · exact .inr (.inl h)
  · rcases I.all y h1 with h | h | h
    · exact absurd h h2
    · exact .inr (.inl (co.old y h1 h2 h))
    · exact .inr (.inr h)
/-- while all faces are cut -/
structure FillInv (W : WL) (D : List (Int × Int)) (V : WL) (N : List (Int × Int)) : Prop where
  puts : Puts W N V
  flt : Flt V
  all : ∀ y ∈ stepsOf V, T3 V y ∨ (y ∈ stepsOf W ∧ y ∉ D)
theorem FillInv.step {W V V' : WL} {D N M : List (Int × Int)} {s z : Int × Int} (w : Web W) (F : FillInv W D V N) (I : CutInv V s V' z M) (hs : s ∈ stepsOf V) (l : (faceOf V' z).length = 3) : FillInv W (D ++ [s]) V' (N ++ M) where
  puts := F.puts.trans I.puts
  flt := I.flt
  all := fun y hy => by
    have v := (F.puts.ok w).web
    have v' := (I.puts.ok v).web
    rcases I.all y hy with h | h | ⟨h1, h2, h3⟩
    · exact .inl (face3_T3 v' I.mem l y h)
    · exact .inl h
    · rcases F.all y h1 with h | ⟨h4, h5⟩
      · exact absurd h h3
      · refine .inr ⟨h4, fun q => ?_⟩
        rcases List.mem_append.mp q with q | q
        · exact h5 q
        · rw [List.mem_singleton.mp q] at h2
          obtain ⟨t, ef, _⟩ := face_cyc1 v hs
          exact h2 (by rw [ef]; exact List.mem_cons_self)
theorem PutsOk.conn {W V : WL} {N : List (Int × Int)} (o : PutsOk W V N) (c : Conn W) : Conn V := fun x hx y hy => by
  rw [o.keys] at hx hy
  exact rch_mono (fun u v m => (o.mem u v).mpr (.inl m)) (c x hx y hy)
theorem fsF_rows {W : WL} : ∀ (r S : List (Int × Int)) (L : List (List Int)), (∀ k ∈ L, ∃ s ∈ stepsOf W, k = (faceOf W s).map (·.1)) → (∀ s ∈ r, s ∈ stepsOf W) → ∀ k ∈ (fsF W r S L).2, ∃ s ∈ stepsOf W, k = (faceOf W s).map (·.1)
  | [], _, _, hL, _ => fun k hk => hL k hk
  | s :: r, S, L, hL, hr => by
    have hr' : ∀ s ∈ r, s ∈ stepsOf W := fun q hq => hr q (.tail _ hq)
    unfold fsF
    split
    · exact fsF_rows r S L hL hr'
    · refine fsF_rows r _ _ (fun k hk => ?_) hr'
      rcases List.mem_append.mp hk with hk | hk
      · exact hL k hk
      · exact ⟨s, hr s List.mem_cons_self, List.mem_singleton.mp hk⟩
/-- a web whose faces have all been cut -/
structure Con3 (V : WL) : Prop where
  web : Web V
  len : 3 ≤ V.length
  conn : Conn V
  flt : Flt V
structure Full3 (V : WL) : Prop extends Con3 V where
  faces : ∀ r ∈ facesOf V, r.length = 3
theorem FillInv.full {W V : WL} {D N : List (Int × Int)} (w : Web W) (l3 : 3 ≤ W.length) (c : Conn W) (F : FillInv W D V N) (hD : ∀ s ∈ stepsOf W, s ∈ D) : Full3 V := by
  have o := F.puts.ok w
  have lv : 3 ≤ V.length := by rw [← keys_len, o.keys, keys_len]; exact l3
  have cv := o.conn c
  refine ⟨⟨o.web, lv, cv, F.flt⟩, fun r hr => ?_⟩
  obtain ⟨s, hs, e⟩ := fsF_rows (W := V) (stepsOf V) [] [] (fun _ h => nomatch h) (fun _ h => h) r hr
  rw [e, List.length_map]
  refine T3_len o.web cv lv hs ?_
  rcases F.all s hs with h | ⟨h1, h2⟩
  · exact h
  · exact absurd (hD s h1) h2
theorem Con3.part {V : WL} (f : Con3 V) (kl : V.length ≤ 900) : ∃ r, partsOf V [] = [r] := by
  have o := parts_ok f.web kl
  have g := parts_perm f.web
  cases e : partsOf V [] with
  | nil =>
    have := g.length_eq
    rw [e, keys_len] at this
    have := f.len
    simp at *
    omega
  | cons r rest =>
    cases rest with
    | nil => exact ⟨r, rfl⟩
    | cons s rest =>
      exfalso
      have nf := o.nf
      have nr := o.ne r (by rw [e]; simp)
      have ns := o.ne s (by rw [e]; simp)
      obtain ⟨x, hx⟩ := List.exists_mem_of_ne_nil r nr
      obtain ⟨y, hy⟩ := List.exists_mem_of_ne_nil s ns
      have kx : x ∈ keysOf' V := o.pm.mem_iff.mp (List.mem_flatten.mpr ⟨r, by rw [e]; simp, hx⟩)
      have ky : y ∈ keysOf' V := o.pm.mem_iff.mp (List.mem_flatten.mpr ⟨s, by rw [e]; simp, hy⟩)
      have cl := o.cl r (by rw [e]; simp)
      have : ∀ z, Rch V x z → z ∈ r := fun z h => by
        induction h with
        | refl => exact hx
        | step _ m ih => exact cl _ ih _ m
      have yr := this y (f.conn x kx y ky)
      rw [e, List.flatten_cons, List.flatten_cons] at nf
      exact (List.nodup_append.mp nf).2.2 y yr y (List.mem_append_left _ hy) rfl
theorem Con3.eul {V : WL} (f : Con3 V) (kl : V.length ≤ 900) : V.length + (facesOf V).length = (tiesOf V).length + 2 := by
  obtain ⟨r, e⟩ := f.part kl
  have h := (flt_count f.web kl).mp f.flt
  have iso : isoN V = 0 := by
    unfold isoN
    refine List.length_eq_zero_iff.mpr (List.filter_eq_nil_iff.mpr fun x hx => ?_)
    obtain ⟨y, hy, ne⟩ := two_ne f.web.nd (by rw [keys_len]; have := f.len; omega) x
    intro q
    exact rch_row f.web (f.conn y hy x hx) ne (List.isEmpty_iff.mp q)
  rw [e, iso] at h
  simpa using h

theorem all3ge : ∀ {L : List (List Int)}, (∀ c ∈ L, 3 ≤ c.length) → L.flatten.length = 3 * L.length → ∀ c ∈ L, c.length = 3
  | [], _, _ => fun _ h => nomatch h
  | c :: L, h, e => by
    have h1 := h c List.mem_cons_self
    have h2 : ∀ d ∈ L, 3 ≤ d.length := fun d hd => h d (List.mem_cons_of_mem _ hd)
    have h3 : ∀ {L : List (List Int)}, (∀ c ∈ L, 3 ≤ c.length) → 3 * L.length ≤ L.flatten.length := fun {L} => by
      induction L with
      | nil => intro _; simp
      | cons d L ih =>
        intro h
        have a := h d List.mem_cons_self
        have b := ih fun x hx => h x (List.mem_cons_of_mem _ hx)
        simp only [List.flatten_cons, List.length_append, List.length_cons]
        omega
    have h4 := h3 h2
    simp only [List.flatten_cons, List.length_append, List.length_cons] at e
    intro d hd
    rcases List.mem_cons.mp hd with rfl | hd
    · omega
    · exact all3ge h2 (by omega) d hd
/-- as many ties as can be: all faces have three steps -/
theorem Con3.full {V : WL} (f : Con3 V) (kl : V.length ≤ 900) (t : (tiesOf V).length + 6 = 3 * V.length) : Full3 V := by
  refine ⟨f, all3ge (fun r hr => ?_) ?_⟩
  · obtain ⟨s, hs, e⟩ := fsF_rows (W := V) (stepsOf V) [] [] (fun _ h => nomatch h) (fun _ h => h) r hr
    rw [e, List.length_map]
    exact face_len3 f.web f.conn f.len hs
  · have a := faces_sum f.web
    have b := f.eul kl
    have c := steps_twice f.web
    omega
theorem Full3.ties {V : WL} (f : Full3 V) (kl : V.length ≤ 900) : (tiesOf V).length + 6 = 3 * V.length := by
  have a := faces_sum f.web
  have b := f.toCon3.eul kl
  have c := steps_twice f.web
  have d : ∀ {L : List (List Int)}, (∀ c ∈ L, c.length = 3) → L.flatten.length = 3 * L.length := fun {L} => by
    induction L with
    | nil => intro _; rfl
    | cons d L ih =>
      intro h
      have a := h d List.mem_cons_self
      have b := ih fun x hx => h x (List.mem_cons_of_mem _ hx)
      simp only [List.flatten_cons, List.length_append, List.length_cons]
      omega
  have e := d f.faces
  omega
/-! ### parts tied one to the next -/
def tieEnd (V : WL) (u v : Int) : WL := putW V u v (rowsAt V u).getLast? (rowsAt V v).getLast?
theorem place_last (r : List Int) : placeB r r.getLast? = true := by
  cases e : r.getLast? with
  | none => exact List.isEmpty_iff.mpr (List.getLast?_eq_none_iff.mp e)
  | some a => exact decide_eq_true (List.mem_of_getLast? e)
theorem rowB_last {r : List Int} (nd : r.Nodup) (v : Int) : rowB r r.getLast? v = r ++ [v] := by
  rcases List.eq_nil_or_concat r with rfl | ⟨l, a, rfl⟩
  · rfl
  · have na : a ∉ l := fun q => by
      have := List.nodup_append.mp (show (l ++ [a]).Nodup by simpa using nd)
      exact this.2.2 a q a (by simp) rfl
    have hr : l.concat a = l ++ [a] := by simp
    rw [hr]
    have : (l ++ [a]).getLast? = some a := by simp
    rw [this]
    unfold rowB
    rw [if_neg (by simp)]
    show ins (l ++ [a]) a v = _
    rw [ins_app (l2 := []) na]
    simp
structure JInv (W : WL) (Ps : List (List Int)) (k : Nat) (V : WL) (N : List (Int × Int)) : Prop where
  puts : Puts W N V
  flt : Flt V
  ins : ∀ p ∈ N, p.1 ∈ (Ps.take (k + 1)).flatten ∧ p.2 ∈ (Ps.take (k + 1)).flatten
  cl : ∀ x ∈ (Ps.take (k + 1)).flatten, ∀ q ∈ rowsAt V x, q ∈ (Ps.take (k + 1)).flatten
  rch : ∃ p, ∀ x ∈ (Ps.take (k + 1)).flatten, Rch V p x
theorem JInv.start {W : WL} {Ps : List (List Int)} (o : PartsOk W Ps) (f : Flt W) (ne : Ps ≠ []) : JInv W Ps 0 W [] := by
  match Ps, o, ne with
  | r :: rest, o, _ =>
    have e : ((r :: rest).take (0 + 1)).flatten = r := by simp
    obtain ⟨p, hp, hx⟩ := o.con r List.mem_cons_self
    exact ⟨.nil, f, by simp, by rw [e]; exact o.cl r List.mem_cons_self, p, by rw [e]; exact hx⟩
theorem JInv.step {W V : WL} {Ps : List (List Int)} {k : Nat} {N : List (Int × Int)} (w : Web W) (kl : W.length ≤ 900) (o : PartsOk W Ps) (I : JInv W Ps k V N) {r1 r2 : List Int} (g1 : Ps[k]? = some r1) (g2 : Ps[k + 1]? = some r2) :
    r1.headD 0 ∈ keysOf' V ∧ r2.headD 0 ∈ keysOf' V ∧ r1.headD 0 ≠ r2.headD 0 ∧ r2.headD 0 ∉ rowsAt V (r1.headD 0) ∧ JInv W Ps (k + 1) (tieEnd V (r1.headD 0) (r2.headD 0)) (N ++ [(r1.headD 0, r2.headD 0)]) := by
  have ok := I.puts.ok w
  have kv : V.length ≤ 900 := by rw [← keys_len, ok.keys, keys_len]; exact kl
  have h1 := List.mem_of_getElem? g1
  have h2 := List.mem_of_getElem? g2
  have hd : ∀ r : List Int, r ≠ [] → r.headD 0 ∈ r := fun r ne => by
    cases r with
    | nil => exact absurd rfl ne
    | cons a r => exact List.mem_cons_self
  have hu1 := hd r1 (o.ne r1 h1)
  have hv2 := hd r2 (o.ne r2 h2)
  have tk1 : Ps.take (k + 1) = Ps.take k ++ [r1] := take_snoc g1
  have tk2 : Ps.take (k + 1 + 1) = Ps.take (k + 1) ++ [r2] := take_snoc g2
  have uS : r1.headD 0 ∈ (Ps.take (k + 1)).flatten := by rw [tk1, List.flatten_append, List.flatten_cons]; exact List.mem_append_right _ (List.mem_append_left _ hu1)
  have dis : ∀ x ∈ r2, x ∉ (Ps.take (k + 1)).flatten := fun x hx q => by
    have e : Ps = Ps.take (k + 1) ++ r2 :: Ps.drop (k + 2) := by
      have a := (List.take_append_drop (k + 1) Ps).symm
      rw [List.drop_eq_getElem_cons (List.getElem?_eq_some_iff.mp g2).1, (List.getElem?_eq_some_iff.mp g2).2] at a
      exact a
    have nf := o.nf
    rw [e, List.flatten_append, List.flatten_cons] at nf
    exact (List.nodup_append.mp nf).2.2 x q x (List.mem_append_left _ hx) rfl
  have vS := dis _ hv2
  have S2 : ∀ x, x ∈ (Ps.take (k + 1 + 1)).flatten ↔ x ∈ (Ps.take (k + 1)).flatten ∨ x ∈ r2 := fun x => by rw [tk2]; simp
  have stay : ∀ x y, x ∈ (Ps.take (k + 1)).flatten → Rch V x y → y ∈ (Ps.take (k + 1)).flatten := fun x y hx h => by
    induction h with
    | refl => exact hx
    | step _ m ih => exact I.cl _ ih _ m
  have kk : ∀ r ∈ Ps, ∀ x ∈ r, x ∈ keysOf' V := fun r hr x hx => by rw [ok.keys]; exact o.pm.mem_iff.mp (List.mem_flatten.mpr ⟨r, hr, hx⟩)
  have hu := kk r1 h1 _ hu1
  have hv := kk r2 h2 _ hv2
  generalize r1.headD 0 = u at *
  generalize r2.headD 0 = v at *
  have nr : ¬ Rch V u v := fun h => vS (stay u v uS h)
  have ne : u ≠ v := fun q => vS (q ▸ uS)
  have nt : v ∉ rowsAt V u := fun h => nr (Rch.refl.step h)
  have pa := place_last (rowsAt V u)
  have pb := place_last (rowsAt V v)
  have mem := fun {x y : Int} => putW_mem ok.web hu hv ne nt pa pb (x := x) (y := y)
  refine ⟨hu, hv, ne, nt, I.puts.snoc hu hv ne nt pa pb, (let_apart ok.web hu hv ne nt pa pb kv I.flt nr).1, fun p hp => ?_, fun x hx q hq => ?_, ?_⟩
  · rw [S2, S2]
    rcases List.mem_append.mp hp with hp | hp
    · exact ⟨.inl (I.ins p hp).1, .inl (I.ins p hp).2⟩
    · rw [List.mem_singleton.mp hp]; exact ⟨.inl uS, .inr hv2⟩
  · rw [S2]
    rcases mem.mp hq with h | ⟨rfl, rfl⟩ | ⟨rfl, rfl⟩
    · rcases (S2 x).mp hx with hx | hx
      · exact .inl (I.cl x hx q h)
      · have nx := dis x hx
        rcases (ok.mem x q).mp h with h | h | h
        · exact .inr (o.cl r2 h2 x hx q h)
        · exact absurd (I.ins _ h).1 nx
        · exact absurd (I.ins _ h).2 nx
    · exact .inr hv2
    · exact .inl uS
  · obtain ⟨p, hp⟩ := I.rch
    have up : ∀ {x y : Int}, Rch V x y → Rch (tieEnd V u v) x y := fun h => rch_mono (fun a b m => mem.mpr (.inl m)) h
    refine ⟨p, fun x hx => ?_⟩
    rcases (S2 x).mp hx with hx | hx
    · exact up (hp x hx)
    · obtain ⟨c, hc, cx⟩ := o.con r2 h2
      have vx : Rch V v x := rch_mono (fun a b m => (ok.mem a b).mpr (.inl m)) (((cx v hv2).symm w).trans (cx x hx))
      exact ((up (hp u uS)).step (mem.mpr (.inr (.inl ⟨rfl, rfl⟩)))).trans (up vx)
theorem JInv.conn {W V : WL} {Ps : List (List Int)} {k : Nat} {N : List (Int × Int)} (w : Web W) (o : PartsOk W Ps) (I : JInv W Ps k V N) (hk : Ps.length ≤ k + 1) : Conn V := fun x hx y hy => by
  have ok := I.puts.ok w
  obtain ⟨p, hp⟩ := I.rch
  rw [List.take_of_length_le hk] at hp
  rw [ok.keys] at hx hy
  exact ((hp x (o.pm.mem_iff.mpr hx)).symm ok.web).trans (hp y (o.pm.mem_iff.mpr hy))
/-! ### the walk: rows as lists -/
theorem rowsI (W : WL) : rowsV W = dictI (W.map fun p => (p.1, .lst (p.2.map .int))) := by simp [rowsV, dictI, Function.comp_def]
theorem rowsI_nd {W : WL} (nd : (keysOf' W).Nodup) : ((W.map fun p => (p.1, MV.lst (p.2.map .int))).map (·.1)).Nodup := by simpa [keysOf', Function.comp_def] using nd
theorem open_raw (W : WL) (w : Web W) (kl : W.length ≤ 100000) (H : MH) (d : MV) (R : RdD H d (websV W)) : We (g_open_rows [d] H) fun v h => v = .ref H.length ∧ h = H ++ [.dK (rowsV W)] := by
  refine d_open_rows ?_
  unfold b_open_rows B1_open_rows
  show wp
  rw [websI] at R
  refine keys_rd (websI_nd w.nd) (by rw [List.length_map]; exact kl) R (fun o => [some d, some (.ref H.length), o]) none (fun _ _ => rfl) (fun _ => rfl) (fun _ => rfl) rfl (fun p => .lst ((rowsAt W p.1).map .int)) (fun p hp c => ?_) fun o => ?_
  · obtain ⟨q, hq, rfl⟩ := List.mem_map.mp hp
    show wp
    show wr (ix_rdI (websI_nd w.nd) (R.lock.app _) hp)
    exact ⟨by rw [rowsAt_of (rowOf_of_mem w.nd (show (q.1, q.2) ∈ W from hq))], rfl⟩
  · show wp
    refine ⟨rfl, ?_⟩
    rw [rowsI, List.map_map]
    congr 3
    refine congrArg dictI (List.map_congr_left fun p hp => ?_)
    simp only [Function.comp_apply]
    rw [rowsAt_of (rowOf_of_mem w.nd (show (p.1, p.2) ∈ W from hp))]
theorem closed_raw (W : WL) (w : Web W) (kl : W.length ≤ 100000) (H : MH) (m : Nat) (e : H[m]? = some (.dK (rowsV W))) : We (g_closed_rows [.ref m] H) fun v h => v = .ref H.length ∧ h = H ++ [.dK (websV W)] := by
  refine d_closed_rows ?_
  unfold b_closed_rows B1_closed_rows
  show wp
  have R : RdD H (.ref m) (rowsV W) := .inr ⟨m, rfl, e⟩
  rw [rowsI] at R
  refine keys_rd (rowsI_nd w.nd) (by rw [List.length_map]; exact kl) R (fun o => [some (.ref m), some (.ref H.length), o]) none (fun _ _ => rfl) (fun _ => rfl) (fun _ => rfl) rfl (fun p => .row ((rowsAt W p.1).map .int)) (fun p hp c => ?_) fun o => ?_
  · obtain ⟨q, hq, rfl⟩ := List.mem_map.mp hp
    show wp
    show wr (ix_rdI (rowsI_nd w.nd) (R.lock.app _) hp)
    exact ⟨by rw [rowsAt_of (rowOf_of_mem w.nd (show (q.1, q.2) ∈ W from hq))], rfl⟩
  · show wp
    refine ⟨rfl, ?_⟩
    rw [websI, List.map_map]
    congr 3
    refine congrArg dictI (List.map_congr_left fun p hp => ?_)
    simp only [Function.comp_apply]
    rw [rowsAt_of (rowOf_of_mem w.nd (show (p.1, p.2) ∈ W from hp))]
theorem behind_ls (h : MH) (W : WL) (m : Nat) (e : h[m]? = some (.dK (rowsV W))) (u v : Int) (r : List Int) (er : rowOf W v = some r) (hu : u ∈ r) (hl : r.length ≤ 1000) : g_behind [.ref m, .int u, .int v] h = some (.tup [.int v, .int (nxt r u)], h) := by
  have lu := List.idxOf_lt_length_of_mem hu
  have mu := Nat.mod_lt (r.idxOf u + 1) (show 0 < r.length by omega)
  have st1 : sAsg (xOp opIx (xVar 0) (xVar 2)) (gNm 3) [some (.ref m), some (.int u), some (.int v), none] h = some (.nx, [some (.ref m), some (.int u), some (.int v), some (.lst (r.map .int))], h) := set_at (op_at rfl rfl (ix_rows e er))
  have ei : xOp opIndexL (xVar 3) (xVar 1) [some (.ref m), some (.int u), some (.int v), some (.lst (r.map .int))] h = some (.int (r.idxOf u : Nat), h) := op_at rfl rfl (index_at hu)
  have em : xOp opMod (xOp opAdd (xOp opIndexL (xVar 3) (xVar 1)) (xC (.int 1))) (xArgs fLen (xCons (xVar 3) xNil)) [some (.ref m), some (.int u), some (.int v), some (.lst (r.map .int))] h = some (.int (((r.idxOf u + 1) % r.length : Nat) : Int), h) := by
    refine op_at (op_at ei rfl rfl) (args1_at rfl len_lst) ?_
    rw [List.length_map, mod_ok (by omega)]
    rfl
  have ex : xOp opIx (xVar 3) (xOp opMod (xOp opAdd (xOp opIndexL (xVar 3) (xVar 1)) (xC (.int 1))) (xArgs fLen (xCons (xVar 3) xNil))) [some (.ref m), some (.int u), some (.int v), some (.lst (r.map .int))] h = some (.int (nxt r u), h) := by
    refine op_at rfl em ((ix_l _ _ _).trans (at_nat ?_))
    rw [List.getElem?_map, List.getElem?_eq_getElem mu]
    unfold nxt
    rw [List.getElem?_eq_getElem mu]
    rfl
  exact run_rt (b := b_behind) ((seq_nx st1).trans (ret_at (by simp only [xTup, xCons, xNil, ex, xVar, List.getElem?_cons_succ, List.getElem?_cons_zero])))
theorem behind_lsW (W : WL) (w : Web W) (hr : ∀ u r, rowOf W u = some r → r.length ≤ 1000) (m : Nat) : ∀ p ∈ stepsOf W, ∀ h : MH, h[m]? = some (.dK (rowsV W)) → g_behind [.ref m, .int p.1, .int p.2] h = some (pairV (behindF W p), h) := fun p hp h e => by
  obtain ⟨u, v⟩ := p
  obtain ⟨r, er, hv⟩ := mem_steps.mp hp
  obtain ⟨r', er', hu⟩ := w.sym u v r er hv
  have := behind_ls h W m e u v r' er' hu (hr v r' er')
  rw [show behindF W (u, v) = (v, nxt r' u) by simp [behindF, rowsAt, er']]
  exact this
theorem face_ls (W : WL) (w : Web W) (hr : ∀ u r, rowOf W u = some r → r.length ≤ 1000) (hN : (stepsOf W).length ≤ 1000000) (m : Nat) (s0 : Int × Int) (h0 : s0 ∈ stepsOf W) (h : MH) (R : h[m]? = some (.dK (rowsV W))) : (toldF g_face_from) [.ref m, .int s0.1, .int s0.2] h = some (.lst ((faceOf W s0).map pairV), h) := by
  have hm := lt_of_get R
  have hg := behind_lsW W w hr m
  have app : ∀ c : MC, (h ++ [c])[m]? = some (.dK (rowsV W)) := fun c => get_app' R
  have st1 : sAsg (xBox (xLst (xCons (xTup (xCons (xVar 1) (xCons (xVar 2) xNil))) xNil))) (gNm 3) [some (.ref m), some (.int s0.1), some (.int s0.2), none, none] h = some (.nx, [some (.ref m), some (.int s0.1), some (.int s0.2), some (.ref h.length), none], h ++ [.lst ([s0].map pairV)]) := rfl
  have st2 : sAsg (xCall g_behind (xCons (xVar 0) (xCons (xVar 1) (xCons (xVar 2) xNil)))) (gNm 4) [some (.ref m), some (.int s0.1), some (.int s0.2), some (.ref h.length), none] (h ++ [.lst ([s0].map pairV)]) = some (.nx, [some (.ref m), some (.int s0.1), some (.int s0.2), some (.ref h.length), some (pairV (behindF W s0))], h ++ [.lst ([s0].map pairV)]) := set_at ((call_3 rfl rfl rfl).trans (hg s0 h0 _ (app _)))
  obtain ⟨s', h', ew, L, p, rfl, rfl, fe⟩ := sWhile_run (c := wFace) (b := cFace g_behind)
    (fun s h1 => ∃ (L : List (Int × Int)) (p : Int × Int), s = [some (.ref m), some (.int s0.1), some (.int s0.2), some (.ref h.length), some (pairV p)] ∧ h1 = h ++ [.lst (L.map pairV)] ∧ FcOk W s0 [] L p ∧ 1 ≤ L.length ∧ fcF W s0 ((stepsOf W).length + 2 - L.length) p L = faceOf W s0)
    (fun s h1 => ∃ (L : List (Int × Int)) (p : Int × Int), s = [some (.ref m), some (.int s0.1), some (.int s0.2), some (.ref h.length), some (pairV p)] ∧ h1 = h ++ [.lst (L.map pairV)] ∧ L = faceOf W s0)
    (fun _ h1 => (stepsOf W).length + 2 - (match h1[h.length]? with | some (.lst xs) => xs.length | _ => 0))
    (by
      rintro s h1 ⟨L, p, rfl, rfl, ok, l1, fe⟩
      have ll := ok.len
      have ct : wFace [some (.ref m), some (.int s0.1), some (.int s0.2), some (.ref h.length), some (pairV p)] (h ++ [.lst (L.map pairV)]) = some (!decide (p = s0), h ++ [.lst (L.map pairV)]) := xB_at (op_at (y := pairV s0) rfl rfl (ne_pair p s0))
      by_cases q : p = s0
      · rw [decide_eq_true q] at ct
        refine .inl ⟨_, ct, L, p, rfl, rfl, ?_⟩
        rw [show (stepsOf W).length + 2 - L.length = ((stepsOf W).length + 1 - L.length) + 1 by omega, fcF, if_pos q] at fe
        exact fe
      · rw [decide_eq_false q] at ct
        have hp := ok.here w
        have ap := append_at (o := xVar 3) (e := xVar 4) (s := [some (.ref m), some (.int s0.1), some (.int s0.2), some (.ref h.length), some (pairV p)]) (v := pairV p) rfl (get_last (h := h) (c := .lst (L.map pairV))) rfl get_last (by rw [List.length_map]; unfold szLine; omega)
        rw [set_last, show L.map pairV ++ [pairV p] = (L ++ [p]).map pairV by simp] at ap
        have ca : xCall g_behind (xCons (xVar 0) (xCons (xOp opIx (xVar 4) (xC (.int 0))) (xCons (xOp opIx (xVar 4) (xC (.int 1))) xNil))) [some (.ref m), some (.int s0.1), some (.int s0.2), some (.ref h.length), some (pairV p)] (h ++ [.lst ((L ++ [p]).map pairV)]) = some (pairV (behindF W p), h ++ [.lst ((L ++ [p]).map pairV)]) := (call_abc (x := .ref m) (y := .int p.1) (z := .int p.2) rfl (op_at rfl rfl ((ix_t _ _ _).trans at_0)) (op_at rfl rfl ((ix_t _ _ _).trans at_1))).trans (hg p hp _ (app _))
        refine .inr ⟨_, .nx, _, _, ct, (seq_nx (expr_at ap)).trans (set_at ca), .inl rfl, ⟨L ++ [p], behindF W p, rfl, rfl, ok.step w .nil q, by simp, ?_⟩, ?_⟩
        · rw [← fe, show (stepsOf W).length + 2 - L.length = ((stepsOf W).length + 2 - (L ++ [p]).length) + 1 by simp; omega, fcF, if_neg q]
        · rw [get_last, get_last]
          simp only [List.length_map, List.length_append, List.length_singleton]
          omega)
    [some (.ref m), some (.int s0.1), some (.int s0.2), some (.ref h.length), some (pairV (behindF W s0))] (h ++ [.lst ([s0].map pairV)]) ⟨[s0], behindF W s0, rfl, rfl, .start h0 (by simp), by simp, rfl⟩
  have raw : g_face_from [.ref m, .int s0.1, .int s0.2] h = some (.ref h.length, h ++ [.lst (L.map pairV)]) := run_rt (b := bFace g_behind) ((seq_nx st1).trans ((seq_nx st2).trans ((seq_nx ew).trans (ret_at rfl))))
  rw [← fe]
  exact toldF_lst raw get_last (by omega) (plain_pairs L) rfl same_plain
/-! ### the walk: a corner is looked for and cut -/
theorem put_behind_ls (h : MH) (m : Nat) (W : WL) (e : h[m]? = some (.dK (rowsV W))) (p q x : Int) (r : List Int) (er : rowOf W p = some r) (hq : q ∈ r) (kl : W.length ≤ 900) (hz : r.length < 1000) : g_put_behind [.ref m, .int p, .int q, .int x] h = some (.non, h.set m (.dK (rowsV (putRow W p (ins r q x))))) := by
  have hi : r.idxOf q < r.length := List.idxOf_lt_length_iff.mpr hq
  have e1 : cutM (r.map MV.int) none (some (((r.idxOf q : Nat) : Int) + 1)) = (r.map MV.int).take (r.idxOf q + 1) := by
    rw [cut_to (by omega)]
    have : (((r.idxOf q : Nat) : Int) + 1).toNat = r.idxOf q + 1 := by omega
    rw [this]
  have e2 : cutM (r.map MV.int) (some (((r.idxOf q : Nat) : Int) + 1)) none = (r.map MV.int).drop (r.idxOf q + 1) := by
    rw [cut_from (by omega)]
    have : (((r.idxOf q : Nat) : Int) + 1).toNat = r.idxOf q + 1 := by omega
    rw [this]
  have z1 : ((r.map MV.int).take (r.idxOf q + 1)).length + 1 ≤ szLine := by rw [List.length_take, List.length_map]; unfold szLine; omega
  have z2 : ((r.map MV.int).take (r.idxOf q + 1) ++ [MV.int x]).length + ((r.map MV.int).drop (r.idxOf q + 1)).length ≤ szLine := by rw [List.length_append, List.length_take, List.length_drop, List.length_map]; simp only [List.length_singleton]; unfold szLine; omega
  have e3 : (r.map MV.int).take (r.idxOf q + 1) ++ [.int x] ++ (r.map MV.int).drop (r.idxOf q + 1) = (ins r q x).map MV.int := by
    unfold ins
    rw [List.map_append, List.map_append, List.map_take, List.map_drop]
    rfl
  have pr := put_rows (u := p) (r := ins r q x) e (show W.length < szLine by unfold szLine; omega)
  refine run_nx (b := b_put_behind) (s := [some (.ref m), some (.int p), some (.int q), some (.int x), some (.int (((r.idxOf q : Nat) : Int) + 1))]) ((seq_nx (s1 := [some (.ref m), some (.int p), some (.int q), some (.int x), some (.int (((r.idxOf q : Nat) : Int) + 1))]) (h1 := h) ?_).trans ?_)
  · simp only [ewd, ix_rows e er, index_at hq]
  · simp only [ewd, ix_rows e er, e1, e2, z1, z2, if_true, e3, pr]
theorem at_pair {F : List (Int × Int)} {i : Nat} {p : Int × Int} (e : F[i]? = some p) : atM (F.map pairV) (i : Int) = some (pairV p) := at_nat (by rw [List.getElem?_map, e]; rfl)
theorem at_pair2 {F : List (Int × Int)} {i : Nat} {p : Int × Int} (e : F[(i + 2) % F.length]? = some p) : atM (F.map pairV) ((((i : Nat) : Int) + 2) % (((F.map pairV).length : Nat) : Int)) = some (pairV p) := by
  rw [List.length_map, show (((i : Nat) : Int) + 2) % ((F.length : Nat) : Int) = (((i + 2) % F.length : Nat) : Int) by rw [Int.natCast_emod, Int.natCast_add]; rfl]
  exact at_pair e
theorem at_pair1 {F : List (Int × Int)} {i : Nat} {p : Int × Int} (e : F[(i + 1) % F.length]? = some p) : atM (F.map pairV) ((((i : Nat) : Int) + 1) % (((F.map pairV).length : Nat) : Int)) = some (pairV p) := by
  rw [List.length_map, show (((i : Nat) : Int) + 1) % ((F.length : Nat) : Int) = (((i + 1) % F.length : Nat) : Int) by rw [Int.natCast_emod, Int.natCast_add]; rfl]
  exact at_pair e
theorem at_pair0 {F : List (Int × Int)} {i : Nat} {p : Int × Int} (hi : i < F.length) (e : F[(i + F.length - 1) % F.length]? = some p) : atM (F.map pairV) (((i : Nat) : Int) - 1) = some (pairV p) := by
  cases i with
  | zero =>
    have l : (0 + F.length - 1) % F.length = F.length - 1 := by rw [Nat.zero_add, Nat.mod_eq_of_lt (by omega)]
    rw [l] at e
    unfold atM ixM
    rw [List.length_map, if_neg (by omega), if_pos (by omega)]
    rw [show ((((0 : Nat) : Int) - 1) + ((F.length : Nat) : Int)).toNat = F.length - 1 by omega]
    show (F.map pairV)[F.length - 1]? = _
    rw [List.getElem?_map, e]; rfl
  | succ i =>
    have l : (i + 1 + F.length - 1) % F.length = i := by rw [show i + 1 + F.length - 1 = i + F.length by omega, Nat.add_mod_right, Nat.mod_eq_of_lt (by omega)]
    rw [l] at e
    rw [show (((i + 1 : Nat) : Int) - 1) = (i : Int) by omega]
    exact at_pair e
theorem corner_ls (h : MH) (m : Nat) (W : WL) (e : h[m]? = some (.dK (rowsV W))) (F : List (Int × Int)) (lF : F.length ≤ 1000000) (hF : ∀ p ∈ F, p.1 ∈ keysOf' W) (fd : ∃ i, i < F.length ∧ cutB W F i = true) : ∃ i, i < F.length ∧ cutB W F i = true ∧ g_corner_to_cut [.ref m, .lst (F.map pairV)] h = some (.int (i : Nat), h) := by
  have raw : We (g_corner_to_cut [.ref m, .lst (F.map pairV)] h) fun v h' => ∃ i, i < F.length ∧ cutB W F i = true ∧ v = .int (i : Nat) ∧ h' = h := by
    refine d_corner_to_cut ?_
    unfold b_corner_to_cut
    show wp
    rw [List.length_map]
    show wp
    refine wforR (fun k s h1 => ∃ o3 o4 o5, s = [some (.ref m), some (.lst (F.map pairV)), some (.int (F.length : Nat)), o3, o4, o5] ∧ h1 = h ∧ ∀ j, j < k → cutB W F j = false) ⟨none, none, none, rfl, rfl, fun j hj => absurd hj (Nat.not_lt_zero j)⟩ ?_ ?_
    · rintro k x s h1 ex ⟨o3, o4, o5, rfl, rfl, hj⟩
      obtain ⟨kl, rfl⟩ : k < F.length ∧ x = .int (k : Nat) := by
        have := rng_at ex
        refine ⟨by omega, ?_⟩
        rw [this.1, Int.zero_add]
      have g1 : F[k]? = some F[k] := List.getElem?_eq_getElem kl
      have ml := Nat.mod_lt (k + 2) (show 0 < F.length by omega)
      have g2 : F[(k + 2) % F.length]? = some F[(k + 2) % F.length] := List.getElem?_eq_getElem ml
      obtain ⟨r, er⟩ := mem_rowOf (hF _ (List.mem_of_getElem? g1))
      generalize F[k] = a at *
      generalize F[(k + 2) % F.length] = b at *
      have cb : cutB W F k = (!decide (a.1 = b.1) && !decide (b.1 ∈ r)) := by
        unfold cutB
        rw [List.getD_eq_getElem?_getD, List.getD_eq_getElem?_getD, g1, g2]
        simp only [Option.getD_some, rowsAt_of er]
      have a2 := at_pair2 g2
      rw [List.length_map] at a2
      unfold B1_corner_to_cut
      show wp
      show wr (at_pair g1)
      show wr a2
      by_cases q1 : a.1 = b.1
      · rw [decide_eq_true q1]
        show wp
        refine .inl ⟨.inl rfl, _, _, _, rfl, rfl, fun j hj' => ?_⟩
        by_cases z : j = k
        · rw [z, cb, decide_eq_true q1]; rfl
        · exact hj j (by omega)
      · rw [decide_eq_false q1]
        show wp
        show wr (ix_rows e er)
        by_cases q2 : b.1 ∈ r
        · rw [decide_eq_true q2]
          show wp
          refine .inl ⟨.inl rfl, _, _, _, rfl, rfl, fun j hj' => ?_⟩
          by_cases z : j = k
          · rw [z, cb, decide_eq_true q2, Bool.not_true, Bool.and_false]
          · exact hj j (by omega)
        · rw [decide_eq_false q2]
          show wp
          refine .inr (.inr ⟨_, rfl, ?_⟩)
          show wp
          exact ⟨k, kl, by rw [cb, decide_eq_false q1, decide_eq_false q2]; rfl, rfl, rfl⟩
    · rintro s h1 ⟨o3, o4, o5, rfl, rfl, hj⟩
      obtain ⟨i, hi, hc⟩ := fd
      rw [hj i (by rw [rng_len]; omega)] at hc; cases hc
  obtain ⟨v, h', ee, i, hi, hc, rfl, rfl⟩ := raw
  exact ⟨i, hi, hc, ee⟩
/-! ### the walk: a corner is cut, a face is cut -/
theorem cutB_yes {W : WL} {F : List (Int × Int)} {i : Nat} {x y : Int × Int} (ex : F[i]? = some x) (ey : F[(i + 2) % F.length]? = some y) (h : cutB W F i = true) : x.1 ≠ y.1 ∧ y.1 ∉ rowsAt W x.1 := by
  unfold cutB at h
  rw [List.getD_eq_getElem?_getD, List.getD_eq_getElem?_getD, ex, ey] at h
  simpa using h
/-- the four points of a corner -/
theorem corner_pts {W : WL} (w : Web W) {s : Int × Int} (hs : s ∈ stepsOf W) {i : Nat} (hi : i < (faceOf W s).length) : ∃ x u m v : Int, (faceOf W s)[(i + (faceOf W s).length - 1) % (faceOf W s).length]? = some (x, u) ∧ (faceOf W s)[i]? = some (u, m) ∧ (faceOf W s)[(i + 1) % (faceOf W s).length]? = some (m, v) ∧ (∃ z, (faceOf W s)[(i + 2) % (faceOf W s).length]? = some (v, z)) ∧ behindF W (x, u) = (u, m) ∧ behindF W (u, m) = (m, v) := by
  obtain ⟨t, ef, p, nd, sub⟩ := face_cyc1 w hs
  have cy : Cyc (behindF W) (faceOf W s) := ⟨s, t, ef, ef ▸ p⟩
  have ml := Nat.mod_lt (i + (faceOf W s).length - 1) (show 0 < (faceOf W s).length by omega)
  have g0 : (faceOf W s)[(i + (faceOf W s).length - 1) % (faceOf W s).length]? = some (faceOf W s)[(i + (faceOf W s).length - 1) % (faceOf W s).length] := List.getElem?_eq_getElem ml
  have g1 := cyc_atF cy g0
  rw [show ((i + (faceOf W s).length - 1) % (faceOf W s).length + 1) % (faceOf W s).length = i by
    rw [Nat.mod_add_mod, show i + (faceOf W s).length - 1 + 1 = i + (faceOf W s).length by omega, Nat.add_mod_right, Nat.mod_eq_of_lt hi]] at g1
  have g2 := cyc_atF cy g1
  have g3 := cyc_atF cy g2
  rw [Nat.mod_add_mod] at g3
  generalize (faceOf W s)[(i + (faceOf W s).length - 1) % (faceOf W s).length] = z0 at *
  obtain ⟨x, u⟩ := z0
  have b1 : behindF W (x, u) = (u, nxt (rowsAt W u) x) := rfl
  generalize nxt (rowsAt W u) x = m at *
  rw [b1] at g1 g2 g3
  have b2 : behindF W (u, m) = (m, nxt (rowsAt W m) u) := rfl
  generalize nxt (rowsAt W m) u = v at *
  rw [b2] at g2 g3
  exact ⟨x, u, m, v, g0, g1, g2, ⟨_, g3⟩, b1, b2⟩
theorem cut_corner_ls (h : MH) (hp : Nat) (W : WL) (e : h[hp]? = some (.dK (rowsV W))) (kl : W.length ≤ 800) (hr : ∀ u r, rowOf W u = some r → r.length ≤ 900) (F : List (Int × Int)) (lF : F.length ≤ 1000000) (i : Nat) (hi : i < F.length) {x u m v z : Int} (g0 : F[(i + F.length - 1) % F.length]? = some (x, u)) (g1 : F[i]? = some (u, m)) (g2 : F[(i + 1) % F.length]? = some (m, v)) (g3 : F[(i + 2) % F.length]? = some (v, z))
    (hu : u ∈ keysOf' W) (hv : v ∈ keysOf' W) (ne : u ≠ v) (hx : x ∈ rowsAt W u) (hm : m ∈ rowsAt W v) : g_cut_corner [.ref hp, .lst (F.map pairV), .int (i : Nat)] h = some (.tup [.int u, .int v], h.set hp (.dK (rowsV (putW W u v (some x) (some m))))) := by
  have hl := lt_of_get e
  obtain ⟨ru, eu⟩ := mem_rowOf hu
  obtain ⟨rv, ev⟩ := mem_rowOf hv
  rw [rowsAt_of eu] at hx
  rw [rowsAt_of ev] at hm
  have nu : ru.isEmpty = false := by cases ru with
    | nil => cases hx
    | cons _ _ => rfl
  have nv : rv.isEmpty = false := by cases rv with
    | nil => cases hm
    | cons _ _ => rfl
  have ep : putW W u v (some x) (some m) = putRow (putRow W u (ins ru x v)) v (ins rv m u) := by
    unfold putW rowB
    rw [rowsAt_of eu, rowsAt_of ev, nu, nv]; rfl
  have p1 := put_behind_ls h hp W e u x v ru eu hx (by omega) (by have := hr u ru eu; omega)
  have ev2 : rowOf (putRow W u (ins ru x v)) v = some rv := by rw [rowOf_put, if_neg (Ne.symm ne)]; exact ev
  have ll : (putRow W u (ins ru x v)).length = W.length := by rw [← keys_len, keys_put, if_pos hu, keys_len]
  have p2 := put_behind_ls (h.set hp (.dK (rowsV (putRow W u (ins ru x v))))) hp _ (get_set hl) v m u rv ev2 hm (by omega) (by have := hr v rv ev; omega)
  rw [List.set_set, ← ep] at p2
  have raw : We (g_cut_corner [.ref hp, .lst (F.map pairV), .int (i : Nat)] h) fun r h' => r = .tup [.int u, .int v] ∧ h' = h.set hp (.dK (rowsV (putW W u v (some x) (some m)))) := by
    refine d_cut_corner ?_
    unfold b_cut_corner
    show wp
    have a0 := at_pair0 hi g0
    have a1 := at_pair g1
    have a2 := at_pair1 g2
    have a3 := at_pair2 g3
    rw [List.length_map] at a2 a3 ⊢
    show wp
    show wr a0
    show wr a1
    show wr a2
    show wr a3
    show wr p1
    show wr p2
    exact ⟨rfl, rfl⟩
  exact we_eq raw
/-! ### the walk: a face is cut -/
theorem Puts.steps {W V : WL} {N : List (Int × Int)} (w : Web W) (h : Puts W N V) : (stepsOf V).length = (stepsOf W).length + 2 * N.length := by
  induction h with
  | nil => simp
  | @snoc N V u v a b p hu hv ne nt pa pb ih =>
    have v1 := (p.ok w).web
    have := (put_stepsP v1 hu hv ne nt pa pb).length_eq
    simp only [List.length_cons] at this
    rw [this, ih, List.length_append, List.length_singleton]; omega
theorem face_le {W : WL} (w : Web W) {s : Int × Int} (hs : s ∈ stepsOf W) : (faceOf W s).length ≤ (stepsOf W).length := by
  obtain ⟨t, ef, p, nd, sub⟩ := face_cyc1 w hs
  rw [ef]
  exact sub_len' nd sub
structure Siz (W : WL) : Prop where
  len : W.length ≤ 200
theorem Siz.row {W : WL} (z : Siz W) (w : Web W) : ∀ u r, rowOf W u = some r → r.length ≤ 200 := ltL w z.len
theorem Siz.row9 {W : WL} (z : Siz W) (w : Web W) : ∀ u r, rowOf W u = some r → r.length ≤ 900 := fun u r e => by have := z.row w u r e; omega
theorem Siz.row1 {W : WL} (z : Siz W) (w : Web W) : ∀ u r, rowOf W u = some r → r.length ≤ 1000 := fun u r e => by have := z.row w u r e; omega
theorem Siz.steps {W : WL} (z : Siz W) (w : Web W) : (stepsOf W).length ≤ 1000000 := steps_len2 w z.len (z.row1 w)
theorem PutsOk.len {W V : WL} {N : List (Int × Int)} (o : PutsOk W V N) : V.length = W.length := by rw [← keys_len, o.keys, keys_len]
set_option maxHeartbeats 4000000 in
theorem cut_face_ls (h : MH) (m : Nat) (W : WL) (e : h[m]? = some (.dK (rowsV W))) (w : Web W) (z : Siz W) (f : Flt W) (c : Conn W) (l3 : 3 ≤ W.length) (s : Int × Int) (hs : s ∈ stepsOf W) :
    ∃ V y M, CutInv W s V y M ∧ (faceOf V y).length = 3 ∧ (toldF g_cut_face) [.ref m, .int s.1, .int s.2] h = some (.lst (M.map pairV), h.set m (.dK (rowsV V))) := by
  have hm := lt_of_get e
  have raw : We (g_cut_face [.ref m, .int s.1, .int s.2] h) fun v h' => ∃ V y M, CutInv W s V y M ∧ (faceOf V y).length = 3 ∧ v = .ref h.length ∧ h' = h.set m (.dK (rowsV V)) ++ [.lst (M.map pairV)] := by
    refine d_cut_face ?_
    unfold b_cut_face
    show wp
    show wr (face_ls W w (z.row1 w) (z.steps w) m s hs (h ++ [.lst []]) (get_app' e))
    refine wwhileN (fun n st h1 => ∃ V y M o5, CutInv W s V y M ∧ n = (faceOf V y).length ∧ st = [some (.ref m), some (.int s.1), some (.int s.2), some (.ref h.length), some (.lst ((faceOf V y).map pairV)), o5] ∧ h1 = h.set m (.dK (rowsV V)) ++ [.lst (M.map pairV)]) _ ⟨W, s, [], none, .start w f c l3 hs, rfl, rfl, by rw [set_same e]; rfl⟩ ?_
    rintro n st h1 ⟨V, y, M, o5, I, rfl, rfl, rfl⟩
    have ok := I.puts.ok w
    have zV : Siz V := ⟨by rw [ok.len]; exact z.len⟩
    have gV : (h.set m (.dK (rowsV V)) ++ [MC.lst (M.map pairV)])[m]? = some (.dK (rowsV V)) := get_app' (get_set hm)
    have lf := face_le ok.web I.mem
    have ls := zV.steps ok.web
    have lm := I.puts.steps w
    unfold W1_cut_face
    show wp
    rw [List.length_map]
    by_cases q : 3 < (faceOf V y).length
    · rw [decide_eq_true (show ((faceOf V y).length : Int) > 3 by omega)]
      show wp
      obtain ⟨t, ef, _, _, sub⟩ := face_cyc1 ok.web I.mem
      obtain ⟨i, hi, hc, ec⟩ := corner_ls _ m V gV (faceOf V y) (by omega) (fun p hp => by rw [ef] at hp; exact (step_keys ok.web (sub p hp)).1) (corner_found ok.web I.flt I.mem (by omega))
      obtain ⟨x, u, mm, v, g0, g1, g2, ⟨zz, g3⟩, b1, b2⟩ := corner_pts ok.web I.mem hi
      obtain ⟨ne, nt⟩ := cutB_yes g1 g3 hc
      obtain ⟨hu, hv, hxu, hmv, I2, lenF⟩ := I.step w (by have := z.len; omega) (by omega) (List.mem_of_getElem? g0) b1 b2 ne nt
      have ec2 := cut_corner_ls _ m V gV (by have := zV.len; omega) (zV.row9 ok.web) (faceOf V y) (by omega) i hi g0 g1 g2 g3 hu hv ne hxu hmv
      rw [List.set_append_left _ _ (by simpa using hm), List.set_set] at ec2
      have ok2 := I2.puts.ok w
      have zU : Siz (putW V u v (some x) (some mm)) := ⟨by rw [ok2.len]; exact z.len⟩
      unfold B1_cut_face
      show wp
      show wr ec
      show wr ec2
      refine we_append (we_var rfl ⟨h.length, _, rfl, get_end (by simp), we_var rfl ⟨_, get_end (by simp), by rw [List.length_map]; omega, ?_⟩⟩)
      have es : ∀ c1 c2 : MC, (h.set m (.dK (rowsV (putW V u v (some x) (some mm)))) ++ [c1]).set h.length c2 = h.set m (.dK (rowsV (putW V u v (some x) (some mm)))) ++ [c2] := fun c1 c2 => by
        have : (h.set m (MC.dK (rowsV (putW V u v (some x) (some mm))))).length = h.length := by simp
        rw [← this, set_last]
      rw [es]
      have gU : (h.set m (.dK (rowsV (putW V u v (some x) (some mm)))) ++ [MC.lst (M.map pairV ++ [.tup [.int u, .int v]])])[m]? = some (.dK (rowsV (putW V u v (some x) (some mm)))) := get_app' (get_set hm)
      have ff := face_ls (putW V u v (some x) (some mm)) ok2.web (zU.row1 ok2.web) (zU.steps ok2.web) m (u, v) I2.mem _ gU
      show wp
      show wr ff
      exact ⟨.inl rfl, _, by omega, _, (u, v), M ++ [(u, v)], _, I2, rfl, rfl, by rw [List.map_append]; rfl⟩
    · rw [decide_eq_false (show ¬ ((faceOf V y).length : Int) > 3 by omega)]
      show wp
      exact ⟨V, y, M, I, by have := I.len; omega, rfl, rfl⟩
  obtain ⟨v, h', ee, V, y, M, I, l, rfl, rfl⟩ := raw
  exact ⟨V, y, M, I, l, toldF_lst ee (get_end (by simp)) (Nat.le_refl _) (plain_pairs M) (by simp) (set_plain (plain_rows V))⟩
/-! ### the walk: parts are joined -/
theorem set_mid0 {h t : MH} {a x : MC} : (h ++ a :: t).set h.length x = h ++ x :: t := by simp
theorem set_mid1 {h t : MH} {a b x : MC} : (h ++ a :: b :: t).set (h.length + 1) x = h ++ a :: x :: t := by simp
theorem get_mid0 {h t : MH} {a : MC} : (h ++ a :: t)[h.length]? = some a := by simp
theorem get_mid1 {h t : MH} {a b : MC} : (h ++ a :: b :: t)[h.length + 1]? = some b := by simp
theorem tie_end_put {V : WL} (v : Web V) (u x : Int) : tieEnd V u x = putRow (putRow V u (rowsAt V u ++ [x])) x (rowsAt V x ++ [u]) := by
  unfold tieEnd putW
  rw [rowB_last (rowsAt_ok v u).1, rowB_last (rowsAt_ok v x).1]
theorem at_heads {Ps : List (List Int)} {i : Nat} {r : List Int} (e : Ps[i]? = some r) : atM (Ps.map fun r => MV.int (r.headD 0)) ((i : Nat) : Int) = some (.int (r.headD 0)) := at_nat (by rw [List.getElem?_map, e]; rfl)
theorem join_raw (h : MH) (W : WL) (w : Web W) (z : Siz W) (f : Flt W) (l3 : 3 ≤ W.length) : ∃ V N, Puts W N V ∧ Flt V ∧ Conn V ∧ g_join_parts [.dK (websV W), .ref h.length] (h ++ [.dK (rowsV W)]) = some (.ref (h.length + 1), h ++ [.dK (rowsV V), .lst (N.map pairV)]) := by
  have o := parts_ok w (show W.length ≤ 900 by have := z.len; omega)
  have pe := parts_rd W w (by have := z.len; omega) (h ++ [.dK (rowsV W)]) _ (.inl rfl)
  have lP : (partsOf W []).length ≤ 900 := by
    obtain ⟨R, eR, sR⟩ := o.heads
    have := o.le w (R := keysOf' W) fun x hx => ⟨x, hx, .refl⟩
    rw [keys_len] at this
    have := z.len; omega
  generalize partsOf W [] = Ps at *
  have nP : Ps ≠ [] := fun q => by
    have := o.pm.length_eq
    rw [q, keys_len] at this
    simp at this; omega
  have raw : We (g_join_parts [.dK (websV W), .ref h.length] (h ++ [.dK (rowsV W)])) fun v h' => ∃ V N, JInv W Ps (Ps.length - 1) V N ∧ v = .ref (h.length + 1) ∧ h' = h ++ [.dK (rowsV V), .lst (N.map pairV)] := by
    refine d_join_parts ?_
    unfold b_join_parts
    show wp
    show wr pe
    refine wlc (fun r : List Int => MV.row (r.map .int)) (fun _ => true) (fun r => .int (r.headD 0)) Ps rfl (by omega) (fun r hr => ?_) ?_
    · obtain ⟨a, r', rfl⟩ : ∃ a r', r = a :: r' := by
        cases r with
        | nil => exact absurd rfl (o.ne _ hr)
        | cons a r' => exact ⟨a, r', rfl⟩
      show wp
      refine ⟨rfl, rfl, fun _ _ => ?_, rfl⟩
      simp only [List.map_cons]
      show wp
      exact ⟨rfl, rfl⟩
    rw [List.filter_eq_self.mpr fun _ _ => rfl]
    show wp
    rw [List.length_map]
    show wp
    refine wfor (fun i s h1 => ∃ V N o3 o5 o6 o7, JInv W Ps i V N ∧ s = [some (.dK (websV W)), some (.ref h.length), some (.lst (Ps.map fun r => .int (r.headD 0))), o3, some (.ref (h.length + 1)), o5, o6, o7] ∧ h1 = h ++ [.dK (rowsV V), .lst (N.map pairV)]) ⟨W, [], none, none, none, none, .start o f nP, by simp, by simp⟩ ?_ ?_
    · rintro i x s h1 ex ⟨V, N, o3, o5, o6, o7, I, rfl, rfl⟩
      obtain ⟨rfl, hi⟩ := rng_at ex
      have hi : i + 1 < Ps.length := by omega
      have g1 : Ps[i]? = some Ps[i] := List.getElem?_eq_getElem (by omega)
      have g2 : Ps[i + 1]? = some Ps[i + 1] := List.getElem?_eq_getElem hi
      obtain ⟨hu, hv, ne, nt, I2⟩ := I.step w (by have := z.len; omega) o g1 g2
      have a1 := at_heads g1
      have a2 := at_heads g2
      generalize Ps[i].headD 0 = u at *
      generalize Ps[i + 1].headD 0 = v at *
      have ok := I.puts.ok w
      have zV : Siz V := ⟨by rw [ok.len]; exact z.len⟩
      obtain ⟨ru, eu⟩ := mem_rowOf hu
      obtain ⟨rv, ev⟩ := mem_rowOf hv
      have lu := zV.row ok.web u ru eu
      have lv := zV.row ok.web v rv ev
      have ep := tie_end_put ok.web u v
      rw [rowsAt_of eu, rowsAt_of ev] at ep
      have ev2 : rowOf (putRow V u (ru ++ [v])) v = some rv := by rw [rowOf_put, if_neg (Ne.symm ne)]; exact ev
      have ll : (putRow V u (ru ++ [v])).length = V.length := by rw [← keys_len, keys_put, if_pos hu, keys_len]
      have p1 := put_rows (h := h ++ [.dK (rowsV V), .lst (N.map pairV)]) (m := h.length) (u := u) (r := ru ++ [v]) get_mid0 (by have := zV.len; unfold szLine; omega)
      rw [set_mid0] at p1
      have p2 := put_rows (h := h ++ [.dK (rowsV (putRow V u (ru ++ [v]))), .lst (N.map pairV)]) (m := h.length) (u := v) (r := rv ++ [u]) get_mid0 (by have := zV.len; unfold szLine; omega)
      rw [set_mid0, ← ep] at p2
      have x1 := ix_rows (h := h ++ [.dK (rowsV V), .lst (N.map pairV)]) (m := h.length) get_mid0 eu
      have x2 := ix_rows (h := h ++ [.dK (rowsV (putRow V u (ru ++ [v]))), .lst (N.map pairV)]) (m := h.length) get_mid0 ev2
      have lN := I2.puts.steps w
      have sN := (Siz.mk (W := tieEnd V u v) (by rw [(I2.puts.ok w).len]; exact z.len)).steps (I2.puts.ok w).web
      rw [List.length_append, List.length_singleton] at lN
      rw [show (1 : Int) + ((i : Nat) : Int) = ((i + 1 : Nat) : Int) by omega]
      unfold B1_join_parts
      show wp
      rw [show ((i + 1 : Nat) : Int) - 1 = ((i : Nat) : Int) by omega]
      show wr a1
      show wr a2
      show wr x1
      refine wv_cat rfl rfl (by rw [List.length_map]; simp only [List.length_singleton]; omega) (show ru.map MV.int ++ [.int v] = (ru ++ [v]).map .int by simp) ?_
      show wp
      show wr p1
      show wr x2
      refine wv_cat rfl rfl (by rw [List.length_map]; simp only [List.length_singleton]; omega) (show rv.map MV.int ++ [.int u] = (rv ++ [u]).map .int by simp) ?_
      show wp
      show wr p2
      refine we_append (we_var rfl ⟨h.length + 1, _, rfl, get_mid1, ?_⟩)
      show wp
      refine ⟨_, get_mid1, by rw [List.length_map]; omega, ?_⟩
      rw [set_mid1]
      show wp
      exact ⟨.inl rfl, _, N ++ [(u, v)], _, _, _, _, I2, rfl, by rw [List.map_append]; rfl⟩
    · rintro s h1 ⟨V, N, o3, o5, o6, o7, I, rfl, rfl⟩
      rw [rng_len] at I
      show wp
      refine ⟨V, N, ?_, rfl, rfl⟩
      rw [show ((Ps.length : Int) - 1).toNat = Ps.length - 1 by omega] at I
      exact I
  obtain ⟨v, h', ee, V, N, I, rfl, rfl⟩ := raw
  have : 0 < Ps.length := List.length_pos_iff.mpr nP
  exact ⟨V, N, I.puts, I.flt, I.conn w o (by omega), ee⟩
/-! ### webs that are not flat -/
theorem notflat_of {V : WL} (v : Web V) (kl : V.length ≤ 200) (h : ¬ Flt V) : (partsOf V []).all (flatB V) = false := by
  cases e : (partsOf V []).all (flatB V) with
  | false => rfl
  | true => exact absurd ((flt_all v (by omega)).mp e) h
/-- points alone beside a web -/
def lonesW (ps : List Int) : WL := ps.map fun p => (p, ([] : List Int))
theorem lones_keys (ps : List Int) : keysOf' (lonesW ps) = ps := by simp [lonesW, keysOf', Function.comp_def]
theorem lones_row (ps : List Int) (u : Int) : rowsAt (lonesW ps) u = [] := by
  unfold rowsAt
  cases e : rowOf (lonesW ps) u with
  | none => rfl
  | some r =>
    have := mem_of_rowOf e
    obtain ⟨p, _, q⟩ := List.mem_map.mp this
    cases q
    rfl
theorem lones_web {ps : List Int} (nd : ps.Nodup) : Web (lonesW ps) := by
  have z : ∀ u r, rowOf (lonesW ps) u = some r → r = [] := fun u r e => by
    have := lones_row ps u
    rw [rowsAt_of e] at this
    exact this
  refine ⟨by rw [lones_keys]; exact nd, fun u r e => ?_, fun u v r e hv => ?_⟩
  · rw [z u r e]; simp
  · rw [z u r e] at hv; cases hv
theorem beside_web {W : WL} (w : Web W) {ps : List Int} (nd : ps.Nodup) (hd : ∀ p ∈ ps, p ∉ keysOf' W) : Web (W ++ lonesW ps) := by
  have v := lones_web nd
  have kk : keysOf' (W ++ lonesW ps) = keysOf' W ++ ps := by
    have : keysOf' (W ++ lonesW ps) = keysOf' W ++ keysOf' (lonesW ps) := by simp [keysOf']
    rw [this, lones_keys]
  have ro : ∀ u r, rowOf (W ++ lonesW ps) u = some r → rowOf W u = some r ∨ r = [] := fun u r e => by
    rw [rowOf_app] at e
    cases q : rowOf W u with
    | some r0 => rw [q] at e; exact .inl e
    | none =>
      rw [q] at e
      have e : rowOf (lonesW ps) u = some r := e
      have := lones_row ps u
      rw [rowsAt_of e] at this
      exact .inr this
  refine ⟨?_, fun u r e => ?_, fun u v r e hv => ?_⟩
  · rw [kk]
    exact List.nodup_append.mpr ⟨w.nd, nd, fun a ha b hb q => hd b hb (q ▸ ha)⟩
  · rcases ro u r e with q | q
    · exact w.row u r q
    · rw [q]; simp
  · rcases ro u r e with q | q
    · obtain ⟨r', e', hu⟩ := w.sym u v r q hv
      exact ⟨r', by rw [rowOf_app, e']; rfl, hu⟩
    · rw [q] at hv; cases hv
theorem beside_rows {W : WL} {ps : List Int} (u : Int) : rowsAt (W ++ lonesW ps) u = rowsAt W u := by
  by_cases q : u ∈ keysOf' W
  · exact rowsAt_app1 q
  · rw [rowsAt_app2 q, lones_row]
    unfold rowsAt
    rw [rowOf_none q]
    rfl
theorem beside_not {W : WL} (w : Web W) {ps : List Int} (nd : ps.Nodup) (hd : ∀ p ∈ ps, p ∉ keysOf' W) (h : ¬ Flt W) : ¬ Flt (W ++ lonesW ps) := fun f =>
  h (Flt.same w (beside_web w nd hd) (fun p hp => by simp only [keysOf', List.map_append, List.mem_append]; exact .inl hp) (fun p => (beside_rows p).symm) f)
/-- all tied to all -/
theorem crossed_not {W : WL} (w : Web W) (l5 : 5 ≤ W.length) (kl : W.length ≤ 20) (all : ∀ u r, rowOf W u = some r → r.length + 1 = W.length) : ¬ Flt W := fun f => by
  have cn : Conn W := fun x hx y hy => by
    by_cases q : y = x
    · rw [q]; exact .refl
    · obtain ⟨r, er⟩ := mem_rowOf hx
      have l := all x r er
      obtain ⟨nd, nx⟩ := w.row x r er
      have hy2 : y ∈ r := by
        have p := perm_of_sub (l := x :: r) (k := keysOf' W) (List.nodup_cons.mpr ⟨nx, nd⟩) (fun z hz => by
          rcases List.mem_cons.mp hz with rfl | hz
          · exact hx
          · exact row_keys w er z hz) (by rw [List.length_cons, keys_len]; exact l)
        exact (List.mem_cons.mp (p.mem_iff.mpr hy)).resolve_left q
      exact Rch.refl.step (by rw [rowsAt_of er]; exact hy2)
  have c3 : Con3 W := ⟨w, by omega, cn, f⟩
  have a := faces_sum w
  have b := c3.eul (by omega)
  have c := steps_twice w
  have d : 3 * (facesOf W).length ≤ (facesOf W).flatten.length := by
    have h : ∀ r ∈ facesOf W, 3 ≤ r.length := fun r hr => by
      obtain ⟨s, hs, e⟩ := fsF_rows (W := W) (stepsOf W) [] [] (fun _ h => nomatch h) (fun _ h => h) r hr
      rw [e, List.length_map]
      exact face_len3 w cn c3.len hs
    generalize facesOf W = L at h
    induction L with
    | nil => simp
    | cons r L ih =>
      have a := h r List.mem_cons_self
      have b := ih fun x hx => h x (List.mem_cons_of_mem _ hx)
      simp only [List.flatten_cons, List.length_append, List.length_cons]
      omega
  have s : (stepsOf W).length = W.length * (W.length - 1) := by
    have g : ∀ ks : List Int, (∀ u ∈ ks, u ∈ keysOf' W) → (stepsF W ks).length = ks.length * (W.length - 1) := fun ks => by
      induction ks with
      | nil => intro _; simp [stepsF]
      | cons u ks ih =>
        intro h
        have e : stepsF W (u :: ks) = ((sortI (rowsAt W u)).map fun v => (u, v)) ++ stepsF W ks := rfl
        obtain ⟨r, er⟩ := mem_rowOf (h u List.mem_cons_self)
        have l := all u r er
        rw [e, List.length_append, List.length_map, (sortI_perm _).length_eq, ih fun x hx => h x (List.mem_cons_of_mem _ hx), List.length_cons, Nat.succ_mul, rowsAt_of er]
        omega
    unfold stepsOf
    rw [g _ fun u hu => (sortI_perm _).mem_iff.mp hu, (sortI_perm _).length_eq, keys_len]
  have hc : W.length = 5 ∨ W.length = 6 ∨ W.length = 7 ∨ W.length = 8 ∨ 9 ≤ W.length := by omega
  rcases hc with q | q | q | q | q
  · rw [q] at s b; omega
  · rw [q] at s b; omega
  · rw [q] at s b; omega
  · rw [q] at s b; omega
  · have : W.length * 8 ≤ W.length * (W.length - 1) := Nat.mul_le_mul_left _ (by omega)
    omega
/-- two members of a three-cornered web's row that stand side by side, changed with one another -/
theorem T3_of_full {V : WL} (F : Full3 V) : ∀ s ∈ stepsOf V, behindF V (behindF V (behindF V s)) = s := fun s hs => by
  obtain ⟨L, c, e⟩ := faces_cov F.web
  obtain ⟨k, hk, hx⟩ := List.mem_flatten.mp (c.perm.mem_iff.mpr hs)
  have l3 : k.length = 3 := by
    have := F.faces (k.map (·.1)) (by rw [e]; exact List.mem_map.mpr ⟨k, hk, rfl⟩)
    rw [List.length_map] at this
    exact this
  obtain ⟨t, p, pm⟩ := (c.cyc k hk).turn hx
  have lt := pm.length_eq
  rw [l3] at lt
  match t, p, lt with
  | [a, b], p, _ =>
    obtain ⟨p1, p2, p3, _⟩ := p
    have p1 : behindF V s = a := p1
    have p2 : behindF V a = b := p2
    have p3 : behindF V b = s := p3
    rw [p1, p2, p3]
  | [], _, lt => simp at lt
  | [a], _, lt => simp at lt
  | a :: b :: c :: t, _, lt => simp at lt
theorem changed_not {V : WL} (T : Tri V) (v : Web V) (cn : Conn V) (st : (stepsOf V).length + 12 = 6 * V.length) (l3 : 3 ≤ V.length) (kl : V.length ≤ 200) {p x y : Int} {l m : List Int} (er : rowOf V p = some (l ++ x :: y :: m)) (lr : 1 ≤ l.length + m.length) : Web (putRow V p (l ++ y :: x :: m)) ∧ ¬ Flt (putRow V p (l ++ y :: x :: m)) := by
  have pm : (l ++ y :: x :: m).Perm (l ++ x :: y :: m) := List.Perm.append_left _ (List.Perm.swap x y m)
  have hp := rowOf_mem er
  have w := put_web v er pm
  refine ⟨w, fun f => ?_⟩
  have ks : keysOf' (putRow V p (l ++ y :: x :: m)) = keysOf' V := by rw [keys_put, if_pos hp]
  have ln : (putRow V p (l ++ y :: x :: m)).length = V.length := by rw [← keys_len, ks, keys_len]
  have ro : ∀ u r, rowOf V u = some r → ∃ r', rowOf (putRow V p (l ++ y :: x :: m)) u = some r' ∧ r'.Perm r := fun u r e => by
    rw [rowOf_put]
    by_cases q : u = p
    · subst q
      rw [er] at e; cases e
      exact ⟨_, if_pos rfl, pm⟩
    · exact ⟨r, by rw [if_neg q]; exact e, .refl _⟩
  have ss := steps_same (by rw [ks]) ro
  have tt : tiesOf (putRow V p (l ++ y :: x :: m)) = tiesOf V := by unfold tiesOf; rw [ss]
  have cn2 : Conn (putRow V p (l ++ y :: x :: m)) := fun a ha b hb => by
    rw [ks] at ha hb
    refine rch_mono (fun u z hz => ?_) (cn a ha b hb)
    exact mem_st.mp (by rw [ss]; exact mem_st.mpr hz)
  have tw := steps_twice v
  have F : Full3 (putRow V p (l ++ y :: x :: m)) := Con3.full ⟨w, by rw [ln]; exact l3, cn2, f⟩ (by rw [ln]; omega) (by rw [tt, ln]; omega)
  have t3 := T3_of_full F
  obtain ⟨nd, np, _⟩ := T.row p _ er
  rw [List.nodup_append] at nd
  obtain ⟨n1, n2, n3⟩ := nd
  have nx : x ∉ l := fun z => n3 x z x (by simp) rfl
  have ny : y ∉ l := fun z => n3 y z y (by simp) rfl
  have xy : x ≠ y := fun z => by subst z; simp at n2
  have hy : y ∈ l ++ x :: y :: m := by simp
  have hx : x ∈ l ++ x :: y :: m := by simp
  -- the one behind both
  obtain ⟨b, hb1, hb2, hbm⟩ : ∃ b, nxt (l ++ x :: y :: m) y = b ∧ nxt (l ++ y :: x :: m) x = b ∧ b ≠ p := by
    refine ⟨(m ++ (l ++ [x])).headD 0, ?_, ?_, ?_⟩
    · rw [show l ++ x :: y :: m = (l ++ [x]) ++ y :: m by simp, nxt_app (by simp; exact ⟨ny, fun z => xy z.symm⟩)]
      cases m <;> cases l <;> simp
    · rw [show l ++ y :: x :: m = (l ++ [y]) ++ x :: m by simp, nxt_app (by simp; exact ⟨nx, xy⟩)]
      cases m with
      | cons a m => simp
      | nil =>
        cases l with
        | nil => simp at lr
        | cons a l => simp
    · intro z
      apply np
      cases m with
      | cons a m => simp at z; simp [z]
      | nil =>
        cases l with
        | nil => simp at lr
        | cons a l => simp at z; simp [z]
  obtain ⟨ry, ey, hpy⟩ := T.sym p y _ er hy
  obtain ⟨_, rz, ez, _, _, _, _, _, _, _, f1, _⟩ := T.corners ey hpy er
  rw [hb1] at ez
  have e1 : rowsAt (putRow V p (l ++ y :: x :: m)) p = l ++ y :: x :: m := rowsAt_of (by rw [rowOf_put, if_pos rfl])
  have e2 : rowsAt (putRow V p (l ++ y :: x :: m)) b = rz := rowsAt_of (by rw [rowOf_put, if_neg hbm]; exact ez)
  have hs : (x, p) ∈ stepsOf (putRow V p (l ++ y :: x :: m)) := by
    rw [ss]
    obtain ⟨rx, ex, hpx⟩ := T.sym p x _ er hx
    exact mem_st.mpr (by rw [rowsAt_of ex]; exact hpx)
  have k := t3 (x, p) hs
  have b1 : behindF (putRow V p (l ++ y :: x :: m)) (x, p) = (p, b) := by
    show (p, nxt (rowsAt _ p) x) = _
    rw [e1, hb2]
  have b2 : behindF (putRow V p (l ++ y :: x :: m)) (p, b) = (b, y) := by
    show (b, nxt (rowsAt _ b) p) = _
    rw [e2]
    rw [f1]
  rw [b1, b2] at k
  exact xy (congrArg Prod.fst k).symm
theorem closed_val (W : WL) (w : Web W) (kl : W.length ≤ 100000) (H : MH) (m : Nat) (e : H[m]? = some (.dK (rowsV W))) : (toldF g_closed_rows) [.ref m] H = some (.dK (websV W), H) :=
  toldF_dK (we_eq (closed_raw W w kl H m e)) get_last (Nat.le_refl _) (plain_webs _) rfl same_plain
theorem tie_name_at (h : MH) (u v : Int) : g_tie_name [.int u, .int v] h = some (pairV (nameOf u v), h) := rfl
theorem wlcC1 {α : Type} {g : XG} {e : XE} {s : SM} {h : MH} {n : Nat} {P : List MV → MH → Prop} (t f : α → MV) (xs : List α) (hc : h[n]? = some (.lst (xs.map t))) (hz : xs.length ≤ 16777216)
    (step : ∀ x ∈ xs, Wg (g (t x) s h) fun s1 h1 => We (e s1 h1) fun v h3 => v = f x ∧ h3 = h ∧ h1 = h) (q : P (xs.map f) h) : Wa (fuel fun m => lcCell g cYes e n m 0 [] s h) P := by
  have key : ∀ (k i : Nat) (acc : List MV), k + i = xs.length → acc.length = i → lcCell g cYes e n (k + 1) i acc s h = some (acc ++ (xs.drop i).map f, h) := fun k => by
    induction k with
    | zero =>
      intro i acc hi ha
      simp only [lcCell, hc]
      rw [List.getElem?_eq_none_iff.mpr (by rw [List.length_map]; omega)]
      rw [List.drop_eq_nil_of_le (by omega)]
      simp
    | succ k ih =>
      intro i acc hi ha
      have hx : xs[i]? = some xs[i] := List.getElem?_eq_getElem (by omega)
      obtain ⟨s1, h1, e1, v, h3, e3, rfl, rfl, rfl⟩ := step xs[i] (List.mem_of_getElem? hx)
      rw [lcCell]
      simp only [hc]
      rw [map_at, hx, Option.map_some]
      simp only [e1, cYes, e3]
      rw [if_pos (by unfold szLine; omega), ih (i + 1) _ (by omega) (by rw [List.length_append, List.length_singleton, ha])]
      obtain ⟨hi', e'⟩ := List.getElem?_eq_some_iff.mp hx
      rw [List.drop_eq_getElem_cons hi', List.map_cons, List.append_assoc]
      rfl
  refine ⟨_, _, fuel_of (f := fun m => lcCell g cYes e n m 0 [] s h) (fun m r q => lcCell_mono m 0 [] s h r q) (key xs.length 0 [] (by omega) rfl), ?_⟩
  rw [List.nil_append, List.drop_zero]
  exact q
theorem toldX_val {g : FnX} {args : List MV} {h t : MH} {v : MV} (e : g args h = some (.val v, h ++ t)) (hp : plainV v = true) : toldX g args h = some (.val v, h) := by
  have e0 : okX g args h = some (v, h ++ t) := by simp only [okX, e]
  have e1 : toldA (okX g) args h = some (v, h) := toldA_v e0 hp rfl same_plain
  simp only [toldX, e1]
theorem filled_val (h : MH) (W : WL) (w : Web W) (z : Siz W) (f : Flt W) (l3 : 3 ≤ W.length) : ∃ v, (toldX g_filled) [.dK (websV W)] h = some (.val v, h) := by
  obtain ⟨W1, N1, p1, f1, c1, ej⟩ := join_raw h W w z f l3
  have ok1 := p1.ok w
  have z1 : Siz W1 := ⟨by rw [ok1.len]; exact z.len⟩
  have l31 : 3 ≤ W1.length := by rw [ok1.len]; exact l3
  have ei := is_flat_at W w z.len (z.row1 w) h
  rw [(flt_all w (by have := z.len; omega)).mpr f] at ei
  have eo := we_eq (open_raw W w (by have := z.len; omega) h _ (.inl rfl))
  have ec := closed_val W1 ok1.web (by have := z1.len; omega) (h ++ [.dK (rowsV W1), .lst (N1.map pairV)]) h.length get_mid0
  have es := steps_of_at W1 (by have := z1.len; omega) (z1.row1 ok1.web) (h ++ [.dK (rowsV W1), .lst (N1.map pairV)])
  have raw : Wr (g_filled [.dK (websV W)] h) fun v h' => ∃ V N, Puts W N V ∧ Full3 V ∧ v = .val (.tup [.dK (websV V), .lst ((sortP (N.map nmP)).map pairV)]) ∧ h' = h ++ [.dK (rowsV V), .lst (N.map pairV)] := by
    refine d_filled ?_
    unfold b_filled
    show wp
    show wr ei
    show wp
    have lw : ((websV W).length : Int) < 3 ↔ False := by
      unfold websV
      rw [List.length_map]
      exact ⟨fun q => by omega, False.elim⟩
    rw [decide_eq_false (fun q => lw.mp q)]
    show wp
    show wr eo
    show wr ej
    show wr ec
    show wr es
    refine wfor (fun i s h1 => ∃ V N o3 o4, FillInv W1 ((stepsOf W1).take i) V N ∧ s = [some (.dK (websV W)), some (.ref h.length), some (.ref (h.length + 1)), o3, o4] ∧ h1 = h ++ [.dK (rowsV V), .lst ((N1 ++ N).map pairV)]) ⟨W1, [], none, none, ⟨.nil, f1, fun y hy => .inr ⟨hy, by simp⟩⟩, rfl, by simp⟩ ?_ ?_
    · rintro i x s h1 ex ⟨V, N, o3, o4, I, rfl, rfl⟩
      rw [List.getElem?_map] at ex
      cases es : (stepsOf W1)[i]? with
      | none => rw [es] at ex; cases ex
      | some st =>
        rw [es] at ex; cases ex
        have okV := I.puts.ok ok1.web
        have zV : Siz V := ⟨by rw [okV.len]; exact z1.len⟩
        have hst : st ∈ stepsOf V := by
          obtain ⟨a, b⟩ := st
          exact mem_st.mpr ((okV.mem a b).mpr (.inl (mem_st.mp (List.mem_of_getElem? es))))
        obtain ⟨V2, y, M, CI, l, e2⟩ := cut_face_ls (h ++ [.dK (rowsV V), .lst ((N1 ++ N).map pairV)]) h.length V get_mid0 okV.web zV I.flt (okV.conn c1) (by rw [okV.len]; exact l31) st hst
        rw [set_mid0] at e2
        have I2 := I.step ok1.web CI hst l
        rw [← take_snoc es] at I2
        have lN := (p1.trans I2.puts).steps w
        have sN := (Siz.mk (W := V2) (by rw [((p1.trans I2.puts).ok w).len]; exact z.len)).steps ((p1.trans I2.puts).ok w).web
        unfold B1_filled
        show wp
        refine we_extend (we_var rfl ⟨h.length + 1, _, rfl, get_mid1, ?_⟩)
        show wp
        show wr e2
        refine ⟨_, _, rfl, get_mid1, by rw [List.length_map, List.length_map]; simp only [List.length_append] at lN ⊢; omega, ?_⟩
        rw [set_mid1]
        show wp
        exact ⟨.inl rfl, V2, N ++ M, _, _, I2, rfl, by rw [← List.map_append, List.append_assoc]⟩
    · rintro s h1 ⟨V, N, o3, o4, I, rfl, rfl⟩
      rw [List.length_map, List.take_length] at I
      have okV := I.puts.ok ok1.web
      have zV : Siz V := ⟨by rw [okV.len]; exact z1.len⟩
      have full := I.full ok1.web l31 c1 fun s hs => hs
      have ec2 := closed_val V okV.web (by have := zV.len; omega) (h ++ [.dK (rowsV V), .lst ((N1 ++ N).map pairV)]) h.length get_mid0
      have lN := (p1.trans I.puts).steps w
      have sN := zV.steps okV.web
      show wp
      show wr ec2
      refine kI_ref get_mid1 ?_
      show wp
      refine wlcC1 pairV (fun p => pairV (nmP p)) (N1 ++ N) get_mid1 (by omega) (fun p hp => ?_) ?_
      · show wp
        show wr (tie_name_at _ p.1 p.2)
        exact ⟨rfl, rfl, rfl⟩
      · rw [show (N1 ++ N).map (fun p => pairV (nmP p)) = ((N1 ++ N).map nmP).map pairV by rw [List.map_map]; rfl]
        show wp
        refine ⟨V, N1 ++ N, p1.trans I.puts, full, rfl, rfl⟩
  obtain ⟨v, h', ee, V, N, p, fu, rfl, rfl⟩ := raw
  exact ⟨_, toldX_val ee (by simp only [plainV, plainL, Bool.and_true, Bool.and_eq_true]; exact ⟨plain_webs _, plain_pairs _⟩)⟩

theorem filled_flatno (h : MH) (W : WL) (w : Web W) (kl : W.length ≤ 200) (f : ¬ Flt W) : (toldX g_filled) [.dK (websV W)] h = some (.ex 0, h) := by
  have z : Siz W := ⟨kl⟩
  have ei := is_flat_at W w z.len (z.row1 w) h
  rw [notflat_of w kl f] at ei
  refine toldX_ex (wr_eq (d_filled ?_))
  unfold b_filled
  show wp
  show wr ei
  show wp
  exact ⟨rfl, rfl⟩
theorem filled_small (h : MH) (W : WL) (w : Web W) (f : Flt W) (l : W.length < 3) : (toldX g_filled) [.dK (websV W)] h = some (.ex 1, h) := by
  have z : Siz W := ⟨by omega⟩
  have ei := is_flat_at W w z.len (z.row1 w) h
  rw [(flt_all w (by omega)).mpr f] at ei
  refine toldX_ex (wr_eq (d_filled ?_))
  unfold b_filled
  show wp
  show wr ei
  show wp
  rw [decide_eq_true (by unfold websV; rw [List.length_map]; omega)]
  show wp
  exact ⟨rfl, rfl⟩
theorem refused_not (h : MH) (W : WL) (w : Web W) (kl : W.length ≤ 200) (f : ¬ Flt W) : (toldV g__law_refused) [.dK (websV W)] h = some (.lst [.bl true, .bl false, .bl false, .bl true], h) := by
  have e := filled_flatno h W w kl f
  have raw : g__law_refused [.dK (websV W)] h = some (.lst [.bl true, .bl false, .bl false, .bl true], h) := by
    refine we_eq (d__law_refused ?_)
    unfold b__law_refused
    show wp
    refine wp_tryAs (wx_expr ?_)
    show wp
    refine wr_of e (kV2_ex ?_)
    refine ⟨by decide, by decide, by simp, by simp, ?_⟩
    show wp
    exact ⟨rfl, rfl⟩
  exact toldV_at (t := []) (by rw [raw, List.append_nil]) rfl rfl same_plain
theorem refused_small (h : MH) (W : WL) (w : Web W) (f : Flt W) (l : W.length < 3) : (toldV g__law_refused) [.dK (websV W)] h = some (.lst [.bl false, .bl true, .bl false, .bl true], h) := by
  have e := filled_small h W w f l
  have raw : g__law_refused [.dK (websV W)] h = some (.lst [.bl false, .bl true, .bl false, .bl true], h) := by
    refine we_eq (d__law_refused ?_)
    unfold b__law_refused
    show wp
    refine wp_tryAs (wx_expr ?_)
    show wp
    refine wr_of e (kV2_ex ?_)
    refine ⟨by decide, by decide, by simp, by simp, ?_⟩
    show wp
    exact ⟨rfl, rfl⟩
  exact toldV_at (t := []) (by rw [raw, List.append_nil]) rfl rfl same_plain
theorem refused_ok (h : MH) (W : WL) (w : Web W) (kl : W.length ≤ 200) (f : Flt W) (l : 3 ≤ W.length) : (toldV g__law_refused) [.dK (websV W)] h = some (.non, h) := by
  obtain ⟨v, e⟩ := filled_val h W w ⟨kl⟩ f l
  have raw : g__law_refused [.dK (websV W)] h = some (.non, h) := by
    refine we_eq (d__law_refused ?_)
    unfold b__law_refused
    show wp
    refine wp_tryAs (wx_expr ?_)
    show wp
    refine wr_of e (kV2_val ?_)
    show wp
    exact ⟨rfl, rfl⟩
  exact toldV_at (t := []) (by rw [raw, List.append_nil]) rfl rfl same_plain
/-! ### a three-cornered web with a row changed -/
theorem some_three {V : WL} (v : Web V) (st : (stepsOf V).length + 12 = 6 * V.length) (l4 : 4 ≤ V.length) : ∃ u r, rowOf V u = some r ∧ 2 < r.length := by
  refine Classical.byContradiction fun q => ?_
  have a : ∀ u r, rowOf V u = some r → r.length ≤ 2 := fun u r e => by
    by_cases z : 2 < r.length
    · exact absurd ⟨u, r, e, z⟩ q
    · omega
  have g : ∀ ks : List Int, (∀ u ∈ ks, u ∈ keysOf' V) → (stepsF V ks).length ≤ 2 * ks.length := fun ks => by
    induction ks with
    | nil => intro _; simp [stepsF]
    | cons u ks ih =>
      intro h
      have e : stepsF V (u :: ks) = ((sortI (rowsAt V u)).map fun v => (u, v)) ++ stepsF V ks := rfl
      obtain ⟨r, er⟩ := mem_rowOf (h u List.mem_cons_self)
      have l := a u r er
      have := ih fun x hx => h x (List.mem_cons_of_mem _ hx)
      rw [e, List.length_append, List.length_map, (sortI_perm _).length_eq, List.length_cons, rowsAt_of er]
      omega
  have l := g (sortI (keysOf' V)) fun u hu => (sortI_perm _).mem_iff.mp hu
  rw [(sortI_perm _).length_eq, keys_len] at l
  have : (stepsOf V).length = (stepsF V (sortI (keysOf' V))).length := rfl
  omega
theorem changed_at (h : MH) (d : Nat) (ds : List Int) (e : h[d]? = some (.lst (ds.map .int))) (hD : Drawn ds) {V : WL} (T : Tri V) (v : Web V) (cn : Conn V) (st : (stepsOf V).length + 12 = 6 * V.length) (l4 : 4 ≤ V.length) (kl : V.length ≤ 30) :
    ∃ U, Web U ∧ ¬ Flt U ∧ keysOf' U = keysOf' V ∧ (toldF g__law_changed) [.ref d, .dK (websV V)] h = some (.dK (websV U), h.set d (.lst (ds.tail.map .int))) := by
  have hd := lt_of_get e
  have en := next_at ds d h e
  obtain ⟨n0, n1⟩ := hD.head
  generalize ds.headD 0 = n at n0 n1 en
  have sm := (sortI_perm (keysOf' V))
  have raw : We (g__law_changed [.ref d, .dK (websV V)] h) fun w h' => ∃ U, Web U ∧ ¬ Flt U ∧ keysOf' U = keysOf' V ∧ w = .ref h.length ∧ h' = h.set d (.lst (ds.tail.map .int)) ++ [.dK (websV U)] := by
    refine d__law_changed ?_
    unfold b__law_changed
    show wp
    show wr en
    refine wlc MV.int (fun p => decide (2 < ((rowsAt V p).length : Int))) MV.int (sortI (keysOf' V)) rfl (by rw [sm.length_eq, keys_len]; omega) (fun p hp => ?_) ?_
    · obtain ⟨r, er⟩ := mem_rowOf (sm.mem_iff.mp hp)
      show wp
      show wr (ix_websV (h := h.set d (.lst (ds.tail.map .int))) er)
      rw [List.length_map, rowsAt_of er]
      exact ⟨rfl, rfl, fun _ _ => ⟨_, _, rfl, rfl, rfl⟩, rfl⟩
    · show wp
      show wr (twin_web V v.nd (by omega) _ _ (.inl rfl))
      have ne : (sortI (keysOf' V)).filter (fun p => decide (2 < ((rowsAt V p).length : Int))) ≠ [] := fun z => by
        obtain ⟨u, r, er, l⟩ := some_three v st l4
        have hm : u ∈ (sortI (keysOf' V)).filter (fun p => decide (2 < ((rowsAt V p).length : Int))) := List.mem_filter.mpr ⟨sm.mem_iff.mpr (rowOf_mem er), by rw [rowsAt_of er]; exact decide_eq_true (by omega)⟩
        rw [z] at hm; cases hm
      have lh : (h.set d (.lst (ds.tail.map .int)) : MH).length = h.length := by simp
      have gl : (h.set d (.lst (ds.tail.map .int)) ++ [MC.dK (websV V)])[(h.set d (.lst (ds.tail.map .int)) : MH).length]? = some (.dK (websV V)) := get_last
      have lp : 0 < (((((sortI (keysOf' V)).filter (fun p => decide (2 < ((rowsAt V p).length : Int)))).map MV.int).length : Nat) : Int) := by
        rw [List.length_map]
        have := List.length_pos_iff.mpr ne
        omega
      refine wv_mod lp ?_
      refine wv_pick n0 ne fun p hp => ?_
      rw [List.mem_filter] at hp
      obtain ⟨r, er⟩ := mem_rowOf (sm.mem_iff.mp hp.1)
      have l3 : 3 ≤ r.length := by
        have := of_decide_eq_true hp.2
        rw [rowsAt_of er] at this
        omega
      have rl := (Siz.mk (W := V) (by omega)).row1 v p r er
      obtain ⟨a, ha, la⟩ : ∃ a : Nat, n / 50 % ((((r.map MV.int).length : Nat) : Int) - 1) = (a : Int) ∧ a + 1 < r.length := by
        rw [List.length_map]
        have a1 := Int.emod_nonneg (n / 50) (show (r.length : Int) - 1 ≠ 0 by omega)
        have a2 := Int.emod_lt_of_pos (n / 50) (show 0 < (r.length : Int) - 1 by omega)
        obtain ⟨k, hk⟩ := Int.eq_ofNat_of_zero_le a1
        exact ⟨k, hk, by omega⟩
      have pz : (0 : Int) < (((r.map MV.int).length : Nat) : Int) - 1 := by rw [List.length_map]; omega
      have ra : r[a + 1]? = some (r[a + 1]'la) := List.getElem?_eq_getElem la
      have rb : r[a]? = some (r[a]'(by omega)) := List.getElem?_eq_getElem (by omega)
      have rd : r.drop a = r[a]'(by omega) :: r[a + 1]'la :: r.drop (a + 2) := by rw [List.drop_eq_getElem_cons (by omega), List.drop_eq_getElem_cons la]
      generalize r[a + 1]'la = x at ra rd
      generalize r[a]'(by omega) = y at rb rd
      have er2 : rowOf V p = some (r.take a ++ y :: x :: r.drop (a + 2)) := by rw [er, ← rd, List.take_append_drop]
      have c1 : cutM (r.map MV.int) none (some ((a : Nat) : Int)) = (r.take a).map .int := by rw [cut_to (by omega), Int.toNat_natCast, List.map_take]
      have c2 : cutM (r.map MV.int) (some ((a : Nat) + 2 : Int)) none = (r.drop (a + 2)).map .int := by rw [cut_from (by omega), show ((a : Nat) + 2 : Int).toNat = a + 2 by omega, List.map_drop]
      have i1 : atM (r.map MV.int) ((a : Nat) + 1 : Int) = some (.int x) := at_nat (i := a + 1) (by rw [List.getElem?_map, ra]; rfl)
      have i2 : atM (r.map MV.int) ((a : Nat) : Int) = some (.int y) := at_nat (by rw [List.getElem?_map, rb]; rfl)
      have a1 : ∀ (s : SM) (h : MH), s[6]? = some (some (.row (r.map .int))) → s[7]? = some (some (.int (a : Nat))) → xSlT (xVar 6) xNoPart (xPart (xVar 7)) s h = some (.row ((r.take a).map .int), h) := fun s h e7 e8 => by
        rw [slR_at (lo := xNoPart) (hi := xPart (xVar 7)) (var_at e7) rfl (show xPart (xVar 7) s h = some (some ((a : Nat) : Int), h) by simp only [xPart, var_at e8]), c1]
      have a2 : ∀ (s : SM) (h : MH), s[6]? = some (some (.row (r.map .int))) → s[7]? = some (some (.int (a : Nat))) → xSlT (xVar 6) (xPart (xOp opAdd (xVar 7) (xC (.int 2)))) xNoPart s h = some (.row ((r.drop (a + 2)).map .int), h) := fun s h e7 e8 => by
        have e9 : xOp opAdd (xVar 7) (xC (.int 2)) s h = some (.int ((a : Nat) + 2), h) := op_at (var_at e8) rfl rfl
        rw [slR_at (lo := xPart (xOp opAdd (xVar 7) (xC (.int 2)))) (hi := xNoPart) (var_at e7) (show xPart (xOp opAdd (xVar 7) (xC (.int 2))) s h = some (some ((a : Nat) + 2 : Int), h) by simp only [xPart, e9]) rfl, c2]
      have lr : 1 ≤ (r.take a).length + (r.drop (a + 2)).length := by rw [List.length_take, List.length_drop]; omega
      obtain ⟨u, nf⟩ := changed_not T v cn st (by omega) (by omega) er2 lr
      show wp
      show wr (ix_websV (h := h.set d (.lst (ds.tail.map .int)) ++ [MC.dK (websV V)]) er)
      rw [ha]
      show wp
      show wr (a1 _ _ rfl rfl)
      show wr i1
      show wr i2
      show wr (catR_at (h := h.set d (.lst (ds.tail.map .int)) ++ [MC.dK (websV V)]) (xs := (r.take a).map MV.int) (ys := [MV.int x, MV.int y]) (by simp only [List.length_map, List.length_cons, List.length_nil]; rw [List.length_take]; omega))
      show wr (a2 _ _ rfl rfl)
      show wr (catR_at (h := h.set d (.lst (ds.tail.map .int)) ++ [MC.dK (websV V)]) (xs := (r.take a).map MV.int ++ [MV.int x, MV.int y]) (ys := (r.drop (a + 2)).map MV.int) (by simp only [List.length_append, List.length_map, List.length_cons, List.length_nil]; rw [List.length_take, List.length_drop]; omega))
      rw [show (r.take a).map MV.int ++ [MV.int x, MV.int y] ++ (r.drop (a + 2)).map MV.int = (r.take a ++ x :: y :: r.drop (a + 2)).map MV.int by simp]
      refine wm_of (put_webs gl (by unfold szLine; omega)) ?_
      rw [set_last]
      show wp
      exact ⟨_, u, nf, by rw [keys_put, if_pos (rowOf_mem er)], by rw [lh], rfl⟩
  obtain ⟨_, _, ee, U, u, nf, ku, rfl, rfl⟩ := raw
  exact ⟨U, u, nf, ku, toldF_dK ee (get_end (by simp)) (Nat.le_refl _) (plain_webs _) (by simp) (set_plain (plain_ints _))⟩
/-! ### all tied to all -/
def restI (ns : List Int) (p : Int) : List Int := ns.filter fun q => !decide (q = p)
def crossW (f : Int → Nat) (ns : List Int) : WL := ns.map fun p => (p, (restI ns p).drop (f p) ++ (restI ns p).take (f p))
theorem cross_keys (f : Int → Nat) (ns : List Int) : keysOf' (crossW f ns) = ns := by simp [crossW, keysOf', Function.comp_def]
theorem mem_rest {ns : List Int} {p q : Int} : q ∈ restI ns p ↔ q ∈ ns ∧ q ≠ p := by
  unfold restI
  rw [List.mem_filter]
  simp
theorem rest_len {ns : List Int} (nd : ns.Nodup) {p : Int} (hp : p ∈ ns) : (restI ns p).length + 1 = ns.length := by
  have n2 : (p :: restI ns p).Nodup := List.nodup_cons.mpr ⟨fun z => (mem_rest.mp z).2 rfl, nd.filter _⟩
  have a := sub_len n2 (fun q z => by
    rcases List.mem_cons.mp z with rfl | z
    · exact hp
    · exact (mem_rest.mp z).1 : ∀ q ∈ p :: restI ns p, q ∈ ns)
  have b := sub_len nd (fun q z => by
    rw [List.mem_cons, mem_rest]
    exact (Classical.em (q = p)).imp id fun e => ⟨z, e⟩ : ∀ q ∈ ns, q ∈ p :: restI ns p)
  rw [List.length_cons] at a b
  omega
theorem cross_row {f : Int → Nat} {ns : List Int} (nd : ns.Nodup) {u : Int} {r : List Int} (e : rowOf (crossW f ns) u = some r) : u ∈ ns ∧ r = (restI ns u).drop (f u) ++ (restI ns u).take (f u) := by
  have m := mem_of_rowOf e
  obtain ⟨p, hp, q⟩ := List.mem_map.mp m
  cases q
  exact ⟨hp, rfl⟩
theorem cross_of {f : Int → Nat} {ns : List Int} (nd : ns.Nodup) {u : Int} (hu : u ∈ ns) : rowOf (crossW f ns) u = some ((restI ns u).drop (f u) ++ (restI ns u).take (f u)) := by
  obtain ⟨r, e⟩ := mem_rowOf (show u ∈ keysOf' (crossW f ns) by rw [cross_keys]; exact hu)
  rw [e, (cross_row nd e).2]
theorem cross_web {f : Int → Nat} {ns : List Int} (nd : ns.Nodup) : Web (crossW f ns) := by
  refine ⟨by rw [cross_keys]; exact nd, fun u r e => ?_, fun u v r e hv => ?_⟩
  · obtain ⟨hu, rfl⟩ := cross_row nd e
    refine ⟨(rot_perm (f u) (restI ns u)).nodup_iff.mpr (nd.filter _), fun z => ?_⟩
    exact (mem_rest.mp ((rot_perm (f u) (restI ns u)).mem_iff.mp z)).2 rfl
  · obtain ⟨hu, rfl⟩ := cross_row nd e
    obtain ⟨a, b⟩ := mem_rest.mp ((rot_perm (f u) (restI ns u)).mem_iff.mp hv)
    exact ⟨_, cross_of nd a, (rot_perm (f v) (restI ns v)).mem_iff.mpr (mem_rest.mpr ⟨hu, Ne.symm b⟩)⟩
theorem cross_not {f : Int → Nat} {ns : List Int} (nd : ns.Nodup) (l5 : 5 ≤ ns.length) (l8 : ns.length ≤ 20) : ¬ Flt (crossW f ns) := by
  have l : (crossW f ns).length = ns.length := by simp [crossW]
  refine crossed_not (cross_web nd) (by omega) (by omega) fun u r e => ?_
  obtain ⟨hu, rfl⟩ := cross_row nd e
  rw [(rot_perm (f u) (restI ns u)).length_eq, rest_len nd hu, l]
theorem crossed_at (h : MH) (d : Nat) (ds : List Int) (e : h[d]? = some (.lst (ds.map .int))) (hD : Drawn ds) :
    ∃ W ds', Web W ∧ ¬ Flt W ∧ Names (keysOf' W) ∧ W.length ≤ 8 ∧ Drawn ds' ∧ (toldF g__law_crossed) [.ref d] h = some (.dK (websV W), h.set d (.lst (ds'.map .int))) := by
  have hd := lt_of_get e
  have en := next_at ds d h e
  have D1 := hD.tail
  obtain ⟨n0, n1⟩ := hD.head
  generalize ds.headD 0 = n at n0 n1 en
  generalize ds.tail = ds1 at D1 en
  obtain ⟨m, hm⟩ : ∃ m : Nat, n % 4 = (m : Int) := Int.eq_ofNat_of_zero_le (by omega)
  have m4 : m < 4 := by omega
  obtain ⟨ns, hns, lns, ens⟩ := names_at ds1 d (h.set d (.lst (ds1.map .int))) (get_set hd) D1 (5 + m) (by omega)
  rw [List.set_set] at ens
  have D2 := D1.tail
  generalize ds1.tail = ds2 at D2 ens
  have en2 := next_at ds2 d (h.set d (.lst (ds2.map .int))) (get_set hd)
  rw [List.set_set] at en2
  obtain ⟨k0, k1⟩ := D2.head
  have D3 := D2.tail
  generalize ds2.headD 0 = k at k0 k1 en2
  generalize ds2.tail = ds3 at D3 en2
  obtain ⟨f, hf⟩ : ∃ f : Int → Nat, ∀ p, f p = (mixOf k p % ((restI ns p).length : Int)).toNat := ⟨_, fun _ => rfl⟩
  have lh : (h.set d (.lst (ds3.map .int)) : MH).length = h.length := by simp
  have raw : We (g__law_crossed [.ref d] h) fun w h' => w = .ref h.length ∧ h' = h.set d (.lst (ds3.map .int)) ++ [.dK (websV (crossW f ns))] := by
    refine d__law_crossed ?_
    unfold b__law_crossed
    show wp
    show wr en
    rw [hm, show (5 : Int) + (m : Int) = ((5 + m : Nat) : Int) by omega]
    show wr ens
    show wr en2
    refine wfor (fun i s h1 => ∃ o4 o5 o6 o7, s = [some (.ref d), some (.lst (ns.map .int)), some (.int k), some (.ref (h.set d (.lst (ds3.map .int)) : MH).length), o4, o5, o6, o7] ∧ h1 = h.set d (.lst (ds3.map .int)) ++ [.dK (websV ((crossW f ns).take i))]) ⟨none, none, none, none, rfl, rfl⟩ ?_ ?_
    · rintro i x s h1 ex ⟨o4, o5, o6, o7, rfl, rfl⟩
      rw [List.getElem?_map] at ex
      cases ep : ns[i]? with
      | none => rw [ep] at ex; cases ex
      | some p =>
        rw [ep] at ex; cases ex
        have hp := List.mem_of_getElem? ep
        have lr := rest_len hns.1 hp
        have lp : 0 < ((((restI ns p).map MV.int).length : Nat) : Int) := by rw [List.length_map]; omega
        unfold B1__law_crossed
        show wp
        refine wlc MV.int (fun q => !decide (q = p)) MV.int ns rfl (by omega) (fun q _ => ?_) ?_
        · show wp
          exact ⟨rfl, rfl, fun _ _ => ⟨_, _, rfl, rfl, rfl⟩, rfl⟩
        · rw [show List.filter (fun q => !decide (q = p)) ns = restI ns p from rfl]
          show wp
          show wr (mixed_at k p _ (by have := hns.2 p hp; omega) (by have := hns.2 p hp; omega))
          have ha : mixOf k p % ((((restI ns p).map MV.int).length : Nat) : Int) = ((f p : Nat) : Int) := by
            rw [hf, List.length_map]
            exact (Int.toNat_of_nonneg (Int.emod_nonneg _ (by rw [List.length_map] at lp; omega))).symm
          rw [ha]
          have c1 : cutM ((restI ns p).map MV.int) (some ((f p : Nat) : Int)) none = ((restI ns p).drop (f p)).map .int := by rw [cut_from (by omega), Int.toNat_natCast, List.map_drop]
          have c2 : cutM ((restI ns p).map MV.int) none (some ((f p : Nat) : Int)) = ((restI ns p).take (f p)).map .int := by rw [cut_to (by omega), Int.toNat_natCast, List.map_take]
          refine ⟨_, rfl, ?_⟩
          rw [c1]
          show wp
          refine ⟨_, rfl, ?_⟩
          rw [c2]
          refine wv_cat rfl rfl (by simp only [List.length_map, List.length_drop, List.length_take]; omega) (List.map_append ..).symm ?_
          show wp
          refine wm_of (put_webs get_last (by unfold szLine; simp only [crossW, List.length_take, List.length_map]; omega)) ?_
          rw [set_last]
          have ek : (crossW f ns)[i]? = some (p, (restI ns p).drop (f p) ++ (restI ns p).take (f p)) := by
            unfold crossW
            rw [List.getElem?_map, ep]; rfl
          have nk : p ∉ keysOf' ((crossW f ns).take i) := fun z => by
            have n2 : (keysOf' ((crossW f ns).take (i + 1))).Nodup := by
              have e1 : keysOf' ((crossW f ns).take (i + 1)) = ns.take (i + 1) := by
                have := cross_keys f ns
                unfold keysOf' at this ⊢
                rw [List.map_take, this]
              rw [e1]; exact hns.1.sublist (List.take_sublist _ _)
            rw [take_snoc ek] at n2
            simp only [keysOf', List.map_append, List.map_cons, List.map_nil] at n2 z
            exact (List.nodup_append.mp n2).2.2 p z p (by simp) rfl
          rw [put_app nk, ← take_snoc ek]
          show wp
          exact ⟨.inl rfl, _, _, _, _, rfl, rfl⟩
    · rintro s h1 ⟨o4, o5, o6, o7, rfl, rfl⟩
      rw [List.length_map, show ns.length = (crossW f ns).length by simp [crossW], List.take_length]
      show wp
      exact ⟨by rw [lh], rfl⟩
  obtain ⟨_, _, ee, rfl, rfl⟩ := raw
  refine ⟨crossW f ns, ds3, cross_web hns.1, cross_not hns.1 (by omega) (by omega), by rw [cross_keys]; exact hns, by simp only [crossW, List.length_map]; omega, D3, toldF_dK ee (get_end (by simp)) (Nat.le_refl _) (plain_webs _) (by simp) (set_plain (plain_ints _))⟩
/-! ### points alone put beside a web -/
def freeI (W : WL) : List Int := ((List.range 999).map fun (k : Nat) => (k : Int)).filter fun k => !decide (k ∈ keysOf' W)
theorem free_len (W : WL) : 999 ≤ (freeI W).length + W.length := by
  have nd : ((List.range 999).map fun (k : Nat) => (k : Int)).Nodup := List.pairwise_map.mpr (List.nodup_range.imp fun {a b} ab q => ab (by exact_mod_cast q))
  have a := sub_len nd (k := freeI W ++ keysOf' W) (fun q z => by
    rw [List.mem_append]
    by_cases k : q ∈ keysOf' W
    · exact .inr k
    · exact .inl (List.mem_filter.mpr ⟨z, by simpa using k⟩))
  rw [List.length_append, keys_len, List.length_map, List.length_range] at a
  exact a
theorem free_not {W : WL} {x : Int} (h : x ∈ freeI W) : x ∉ keysOf' W := by
  have := (List.mem_filter.mp h).2
  simpa using this
theorem beside_at (W : WL) (w : Web W) (kl : W.length ≤ 200) (h : MH) (d : Nat) (ds : List Int) (e : h[d]? = some (.lst (ds.map .int))) (hD : Drawn ds) :
    ∃ ps ds', ps.Nodup ∧ (∀ p ∈ ps, p ∉ keysOf' W) ∧ ps.length ≤ 2 ∧ Drawn ds' ∧ (toldF g__law_beside) [.dK (websV W), .ref d] h = some (.dK (websV (W ++ lonesW ps)), h.set d (.lst (ds'.map .int))) := by
  have hd := lt_of_get e
  have en := next_at ds d (h ++ [.dK (websV W)]) (get_app e)
  rw [List.set_append_left _ _ hd] at en
  have D1 := hD.tail
  obtain ⟨n0, n1⟩ := hD.head
  generalize ds.headD 0 = n at n0 n1 en
  generalize ds.tail = ds1 at D1 en
  have lh : (h.set d (.lst (ds1.map .int)) : MH).length = h.length := by simp
  have raw : We (g__law_beside [.dK (websV W), .ref d] h) fun v h' => ∃ ps : List Int, ps.Nodup ∧ (∀ p ∈ ps, p ∉ keysOf' W) ∧ ps.length ≤ 2 ∧ v = .ref h.length ∧ h' = h.set d (.lst (ds1.map .int)) ++ [.dK (websV (W ++ lonesW ps))] := by
    refine d__law_beside ?_
    unfold b__law_beside
    show wp
    show wr (twin_web W w.nd (by omega) _ _ (.inl rfl))
    show wr en
    refine wfor (fun i s h1 => ∃ ps : List Int, ∃ o4 o5 o6, ps.Nodup ∧ (∀ p ∈ ps, p ∉ keysOf' W) ∧ ps.length = i ∧ s = [some (.dK (websV W)), some (.ref d), some (.ref h.length), some (.int n), o4, o5, o6] ∧ h1 = h.set d (.lst (ds1.map .int)) ++ [.dK (websV (W ++ lonesW ps))]) ⟨[], none, none, none, List.nodup_nil, (fun _ z => nomatch z), rfl, rfl, by simp [lonesW]⟩ ?_ ?_
    · rintro i x s h1 ex ⟨ps, o4, o5, o6, nd, hp, lp, rfl, rfl⟩
      obtain ⟨rfl, hi⟩ := rng_at ex
      have i2 : i < 2 := by omega
      have lV : (W ++ lonesW ps).length = W.length + i := by rw [List.length_append]; simp [lonesW, lp]
      have gc : (h.set d (.lst (ds1.map .int)) ++ [MC.dK (websV (W ++ lonesW ps))])[h.length]? = some (.dK (websV (W ++ lonesW ps))) := get_end lh
      have fl := free_len (W ++ lonesW ps)
      unfold B1__law_beside
      show wp
      have er : rngM 0 (999 : Int).toNat = ((List.range 999).map fun (k : Nat) => (k : Int)).map MV.int := by
        rw [List.map_map]
        exact List.map_congr_left fun k _ => by simp
      refine wlc MV.int (fun k => !decide (k ∈ keysOf' (W ++ lonesW ps))) MV.int _ er (by simp) (fun q _ => ?_) ?_
      · show wp
        show wr (notin_rd (h := h.set d (.lst (ds1.map .int)) ++ [MC.dK (websV (W ++ lonesW ps))]) (.inr ⟨h.length, rfl, .inl gc⟩) q)
        exact ⟨rfl, rfl, fun _ _ => ⟨_, _, rfl, rfl, rfl⟩, rfl⟩
      · rw [show (((List.range 999).map fun (k : Nat) => (k : Int)).filter fun k => !decide (k ∈ keysOf' (W ++ lonesW ps))) = freeI (W ++ lonesW ps) from rfl]
        obtain ⟨j, ej⟩ : ∃ j : Nat, n / 3 % 5 + (0 + ((i : Nat) : Int)) = (j : Int) := Int.eq_ofNat_of_zero_le (by omega)
        have hj : j < (freeI (W ++ lonesW ps)).length := by omega
        have gx : (freeI (W ++ lonesW ps))[j]? = some ((freeI (W ++ lonesW ps))[j]) := List.getElem?_eq_getElem hj
        generalize (freeI (W ++ lonesW ps))[j] = x at gx
        have nx := free_not (List.mem_of_getElem? gx)
        have ix : atM ((freeI (W ++ lonesW ps)).map MV.int) ((j : Nat) : Int) = some (.int x) := at_nat (by rw [List.getElem?_map, gx]; rfl)
        show wp
        rw [ej]
        show wr ix
        refine wm_of (put_webs (r := []) gc (by unfold szLine; omega)) ?_
        rw [set_end lh, put_app nx, List.append_assoc]
        have kx : x ∉ keysOf' W ∧ x ∉ ps := by
          constructor
          · intro z; apply nx; simp only [keysOf', List.map_append, List.mem_append]; exact .inl z
          · intro z; apply nx
            have k : keysOf' (W ++ lonesW ps) = keysOf' W ++ keysOf' (lonesW ps) := by simp [keysOf']
            rw [k, lones_keys, List.mem_append]; exact .inr z
        exact ⟨.inl rfl, ps ++ [x], _, _, _, List.nodup_append.mpr ⟨nd, by simp, fun a ha b hb q => kx.2 (List.mem_singleton.mp hb ▸ q ▸ ha)⟩, fun p h => (List.mem_append.mp h).elim (hp p) (fun z => List.mem_singleton.mp z ▸ kx.1), by rw [List.length_append, List.length_singleton, lp], rfl, by simp [lonesW]⟩
    · rintro s h1 ⟨ps, o4, o5, o6, nd, hp, lp, rfl, rfl⟩
      show wp
      have ll : (rngM 0 (n % 3).toNat).length = (n % 3).toNat := by simp [rngM]
      exact ⟨ps, nd, hp, by omega, rfl, rfl⟩
  obtain ⟨_, _, ee, ps, nd, hp, lp, rfl, rfl⟩ := raw
  exact ⟨ps, ds1, nd, hp, lp, D1, toldF_dK ee (get_end (by simp)) (Nat.le_refl _) (plain_webs _) (by simp) (set_plain (plain_ints _))⟩
/-! ### a web that is not flat -/
theorem tri_rot {W V : WL} (T : Tri W) (t : Rot W V) (v : Web V) : Tri V := by
  have back : ∀ u r, rowOf V u = some r → ∃ r0 k, rowOf W u = some r0 ∧ r = r0.drop k ++ r0.take k := fun u r e => by
    have ku : u ∈ keysOf' W := t.ks.mem_iff.mp (rowOf_mem e)
    obtain ⟨r0, e0⟩ := mem_rowOf ku
    obtain ⟨k, ek⟩ := t.row u r0 e0
    rw [e] at ek; cases ek
    exact ⟨r0, k, e0, rfl⟩
  refine ⟨v.nd, fun u r e => ?_, v.sym, fun u x r r' rw e hx e' ew => ?_⟩
  · obtain ⟨r0, k, e0, rfl⟩ := back u r e
    obtain ⟨a, b, c⟩ := T.row u r0 e0
    exact ⟨(rot_perm k r0).nodup_iff.mpr a, fun z => b ((rot_perm k r0).mem_iff.mp z), by rw [(rot_perm k r0).length_eq]; exact c⟩
  · obtain ⟨r0, k0, e0, rfl⟩ := back u r e
    obtain ⟨r1, k1, e1, rfl⟩ := back x r' e'
    have hx0 := (rot_perm k0 r0).mem_iff.mp hx
    obtain ⟨r1', e1', hu⟩ := T.sym u x r0 e0 hx0
    rw [e1] at e1'; cases e1'
    have n1 := nxt_rot (T.row x r1 e1).1 hu k1
    rw [n1] at ew
    obtain ⟨r2, k2, e2, rfl⟩ := back _ rw ew
    obtain ⟨r2', e2', hx2⟩ := T.sym x (nxt r1 u) r1 e1 (nxt_mem hu)
    rw [e2] at e2'; cases e2'
    rw [nxt_rot (T.row _ r2 e2).1 hx2 k2]
    exact T.face u x r0 r1 r2 e0 hx0 e1 e2

theorem full_t (h : MH) (d : Nat) (ds : List Int) (e : h[d]? = some (.lst (ds.map .int))) (hD : Drawn ds) (ns : List Int) (hns : Names ns) (l3 : 3 ≤ ns.length) (l2 : ns.length ≤ 30) :
    ∃ W V ds' ds'', Tri V ∧ Web V ∧ Conn V ∧ Flt V ∧ (stepsOf V).length + 12 = 6 * V.length ∧ V.length = ns.length ∧ Drawn ds' ∧ Drawn ds'' ∧ (toldF g__law_full) [.ref d, .lst (ns.map .int)] h = some (.dK (rowsV W), h.set d (.lst (ds'.map .int))) ∧ (toldF g__law_begun) [.ref d, .dK (rowsV W)] (h.set d (.lst (ds'.map .int))) = some (.dK (websV V), h.set d (.lst (ds''.map .int))) := by
  have hd := lt_of_get e
  obtain ⟨W, ds3, T, G, kW, D3, eF⟩ := full_grw h d ds e hD ns hns l3 (by omega)
  have lW : W.length = ns.length := by rw [← keys_len, kW]
  have nW : Names (keysOf' W) := by rw [kW]; exact hns
  obtain ⟨V, ⟨pk, rw⟩, wV, nV, lV, eb⟩ := begun_rot (h.set d (.lst (ds3.map .int))) d ds3 (get_set hd) D3 W T.web nW (by omega) (fun u r e => T.web.len nW.2 e) (.dK (rowsV W)) (fun h2 _ => ⟨rfl, fun u r er => ix_rowsV er⟩)
  rw [List.set_set] at eb
  have R : Rot W V := ⟨pk, rw⟩
  have rr : ∀ x, rowsAt V x ≠ [] ∨ True := fun _ => .inr trivial
  have st : stepsOf V = stepsOf W := R.steps
  have ch : ∀ x y, y ∈ rowsAt W x ↔ y ∈ rowsAt V x := fun x y => by rw [← mem_st, ← mem_st, st]
  refine ⟨W, V, ds3, ds3.tail, tri_rot T R wV, wV, fun x hx y hy => ?_, R.flt T.web (tri_flt T G (fun z => by rw [z] at lW; simp at lW; omega)), ?_, by omega, D3, D3.tail, eF, eb⟩
  · have hx2 := R.ks.mem_iff.mp hx
    have hy2 := R.ks.mem_iff.mp hy
    exact G.con (fun z => Rch V x z) (fun a r b ea hb q => q.step ((ch a b).mp (by rw [rowsAt_of ea]; exact hb))) x y hx2 hy2 .refl
  · rw [st, steps_sum T.web, lV]
    exact G.sum
theorem lcrooked_at (h : MH) (d : Nat) (ds : List Int) (e : h[d]? = some (.lst (ds.map .int))) (hD : Drawn ds) :
    ∃ W ds', Web W ∧ ¬ Flt W ∧ W.length ≤ 30 ∧ Drawn ds' ∧ (toldV g__law_crooked) [.ref d] h = some (.dK (websV W), h.set d (.lst (ds'.map .int))) := by
  have hd := lt_of_get e
  have en := next_at ds d h e
  have D1 := hD.tail
  obtain ⟨n0, n1⟩ := hD.head
  generalize ds.headD 0 = n at n0 n1 en
  generalize ds.tail = ds1 at D1 en
  have raw : We (g__law_crooked [.ref d] h) fun v h' => ∃ W ds', Web W ∧ ¬ Flt W ∧ W.length ≤ 30 ∧ Drawn ds' ∧ v = .dK (websV W) ∧ h' = h.set d (.lst (ds'.map .int)) := by
    refine d__law_crooked ?_
    unfold b__law_crooked
    show wp
    show wr en
    refine br_by (fun _ => ?_) (fun _ => ?_)
    · obtain ⟨W, ds2, w, nf, nW, lW, D2, ec⟩ := crossed_at (h.set d (.lst (ds1.map .int))) d ds1 (get_set hd) D1
      rw [List.set_set] at ec
      obtain ⟨ps, ds3, nd, hp, lp, D3, eb⟩ := beside_at W w (by omega) (h.set d (.lst (ds2.map .int))) d ds2 (get_set hd) D2
      rw [List.set_set] at eb
      show wp
      show wr ec
      show wr eb
      exact ⟨_, ds3, beside_web w nd hp, beside_not w nd hp nf, by rw [List.length_append]; simp only [lonesW, List.length_map]; omega, D3, rfl, rfl⟩
    · show wp
      have en2 := next_at ds1 d (h.set d (.lst (ds1.map .int))) (get_set hd)
      rw [List.set_set] at en2
      have D2 := D1.tail
      obtain ⟨k0, k1⟩ := D1.head
      generalize ds1.headD 0 = k at k0 k1 en2
      generalize ds1.tail = ds2 at D2 en2
      obtain ⟨m, hm⟩ : ∃ m : Nat, k % 21 = (m : Int) := Int.eq_ofNat_of_zero_le (by omega)
      have m4 : m < 21 := by omega
      obtain ⟨ns, hns, lns, ens⟩ := names_at ds2 d (h.set d (.lst (ds2.map .int))) (get_set hd) D2 (4 + m) (by omega)
      rw [List.set_set] at ens
      have D3 := D2.tail
      generalize ds2.tail = ds3 at D3 ens
      obtain ⟨W, V, ds4, ds5, T, v, cn, f, st, lV, D4, D5, eF, eB⟩ := full_t (h.set d (.lst (ds3.map .int))) d ds3 (get_set hd) D3 ns hns (by omega) (by omega)
      rw [List.set_set] at eF eB
      rw [List.set_set] at eB
      obtain ⟨U, u, nf, ku, ec⟩ := changed_at (h.set d (.lst (ds5.map .int))) d ds5 (get_set hd) D5 T v cn st (by omega) (by omega)
      rw [List.set_set] at ec
      have lU : U.length = V.length := by rw [← keys_len, ku, keys_len]
      obtain ⟨ps, ds6, nd, hp, lp, D6, eb⟩ := beside_at U u (by omega) (h.set d (.lst (ds5.tail.map .int))) d ds5.tail (get_set hd) D5.tail
      rw [List.set_set] at eb
      show wr en2
      rw [hm, show (4 : Int) + (m : Int) = ((4 + m : Nat) : Int) by omega]
      show wr ens
      show wr eF
      show wr eB
      show wr ec
      show wr eb
      exact ⟨_, ds6, beside_web u nd hp, beside_not u nd hp nf, by rw [List.length_append]; simp only [lonesW, List.length_map]; omega, D6, rfl, rfl⟩
  obtain ⟨_, _, ee, W, ds', w, nf, lW, D, rfl, rfl⟩ := raw
  exact ⟨W, ds', w, nf, lW, D, toldV_at (t := []) (by rw [List.append_nil]; exact ee) (by simp only [plainV]; exact plain_webs W) (by simp) (set_plain (plain_ints _))⟩
theorem some_full_flt (h : MH) (d : Nat) (ds : List Int) (e : h[d]? = some (.lst (ds.map .int))) (hD : Drawn ds) :
    ∃ V ds', Web V ∧ Flt V ∧ 3 ≤ V.length ∧ V.length ≤ 12 ∧ Drawn ds' ∧ (toldV g__law_some_full) [.ref d, .int 12] h = some (.dK (websV V), h.set d (.lst (ds'.map .int))) := by
  have hd := lt_of_get e
  have en := next_at ds d h e
  have D1 := hD.tail
  obtain ⟨n0, n1⟩ := hD.head
  generalize ds.headD 0 = n at n0 n1 en
  generalize ds.tail = ds1 at D1 en
  obtain ⟨m, hm⟩ : ∃ m : Nat, n % 10 = (m : Int) := Int.eq_ofNat_of_zero_le (by omega)
  have m4 : m < 10 := by omega
  obtain ⟨ns, hns, lns, ens⟩ := names_at ds1 d (h.set d (.lst (ds1.map .int))) (get_set hd) D1 (3 + m) (by omega)
  rw [List.set_set] at ens
  have D2 := D1.tail
  generalize ds1.tail = ds2 at D2 ens
  obtain ⟨W, V, ds4, ds5, T, v, cn, f, st, lV, D4, D5, eF, eB⟩ := full_t (h.set d (.lst (ds2.map .int))) d ds2 (get_set hd) D2 ns hns (by omega) (by omega)
  rw [List.set_set] at eF eB
  rw [List.set_set] at eB
  have raw : We (g__law_some_full [.ref d, .int 12] h) fun w h' => w = .dK (websV V) ∧ h' = h.set d (.lst (ds5.map .int)) := by
    refine d__law_some_full ?_
    unfold b__law_some_full
    show wp
    show wr en
    rw [show (12 : Int) - 2 = 10 from rfl, hm, show (3 : Int) + (m : Int) = ((3 + m : Nat) : Int) by omega]
    show wr ens
    show wr eF
    show wr eB
    exact ⟨rfl, rfl⟩
  have raw' : g__law_some_full [.ref d, .int 12] h = some (.dK (websV V), h.set d (.lst (ds5.map .int)) ++ []) := by rw [List.append_nil]; exact we_eq raw
  exact ⟨V, ds5, v, f, by omega, by omega, D5, toldV_at raw' (by simp only [plainV]; exact plain_webs V) (by simp) (set_plain (plain_ints _))⟩
/-! ### small webs -/
theorem bare0 : Flt [] := bare_flt (os := []) List.nodup_nil
theorem bare_row (os : List Int) (u : Int) : rowsAt (os.map fun p => (p, ([] : List Int))) u = [] := lones_row os u
theorem rch_bare {os : List Int} {x y : Int} (h : Rch (os.map fun p => (p, ([] : List Int))) x y) : x = y := by
  induction h with
  | refl => rfl
  | step _ hz _ => rw [bare_row] at hz; cases hz
theorem pair_flt {p q : Int} (rest : List Int) (len : rest.length ≤ 800) (nd : (p :: q :: rest).Nodup) : Web ((p, [q]) :: (q, [p]) :: rest.map fun x => (x, ([] : List Int))) ∧ Flt ((p, [q]) :: (q, [p]) :: rest.map fun x => (x, ([] : List Int))) := by
  · have ne : p ≠ q := fun z => by subst z; simp at nd
    have wB : Web ((p :: q :: rest).map fun x => (x, ([] : List Int))) := lones_web nd
    have fB : Flt ((p :: q :: rest).map fun x => (x, ([] : List Int))) := bare_flt nd
    have kB : keysOf' ((p :: q :: rest).map fun x => (x, ([] : List Int))) = p :: q :: rest := lones_keys _
    have kr : keysOf' (rest.map fun x => (x, ([] : List Int))) = rest := lones_keys rest
    have r1 : ∀ r, repRow (rest.map fun x => (x, ([] : List Int))) p r = rest.map fun x => (x, ([] : List Int)) := fun r => rep_no (by rw [kr]; intro z; simp [z] at nd)
    have r2 : ∀ r, repRow (rest.map fun x => (x, ([] : List Int))) q r = rest.map fun x => (x, ([] : List Int)) := fun r => rep_no (by rw [kr]; intro z; simp [z] at nd)
    have e : putW ((p :: q :: rest).map fun x => (x, ([] : List Int))) p q none none = (p, [q]) :: (q, [p]) :: rest.map fun x => (x, ([] : List Int)) := by
      unfold putW
      rw [bare_row, bare_row]
      simp [rowB, putRow, repRow, rowOf, ne, Ne.symm ne, r1, r2]
    have hu : p ∈ keysOf' ((p :: q :: rest).map fun x => (x, ([] : List Int))) := by rw [kB]; simp
    have hv : q ∈ keysOf' ((p :: q :: rest).map fun x => (x, ([] : List Int))) := by rw [kB]; simp
    have nt : q ∉ rowsAt ((p :: q :: rest).map fun x => (x, ([] : List Int))) p := by rw [bare_row]; simp
    have pa : placeB (rowsAt ((p :: q :: rest).map fun x => (x, ([] : List Int))) p) none = true := by rw [bare_row]; rfl
    have pb : placeB (rowsAt ((p :: q :: rest).map fun x => (x, ([] : List Int))) q) none = true := by rw [bare_row]; rfl
    have a := putW_web wB hu hv ne nt pa pb
    have b := (let_apart wB hu hv ne nt pa pb (by simp; omega) fB (fun r => ne (rch_bare r))).1
    rw [e] at a b
    exact ⟨a, b⟩
/-! ### the law -/
theorem merge3 {a b c : Int} (h1 : a ≠ b) (h2 : a ≠ c) (h3 : b ≠ c) (r s t : List Int) : mergeM [] [(.inl a, .row (r.map .int)), (.inl b, .row (s.map .int)), (.inl c, .row (t.map .int))] = websV [(a, r), (b, s), (c, t)] := by
  have := dict_webs [(a, r), (b, s), (c, t)] [] (by simp [keysOf', h1, h2, h3]) (by simp [keysOf'])
  exact this
theorem merge2' {a b : Int} (h1 : a ≠ b) (r s : List Int) : mergeM [] [(.inl a, .row (r.map .int)), (.inl b, .row (s.map .int))] = websV [(a, r), (b, s)] := by
  have := dict_webs [(a, r), (b, s)] [] (by simp [keysOf', h1]) (by simp [keysOf'])
  exact this
theorem law_true (ns : List Int) (hl : ns.length ≤ 63) : ∃ h', g_law [.scr ns] [] = some (.bl true, h') := by
  suffices h : We (g_law [.scr ns] []) fun v _ => v = .bl true by
    obtain ⟨v, h', e, rfl⟩ := h; exact ⟨h', e⟩
  refine d_law ?_
  unfold b_law
  show wp
  obtain ⟨ds, ed, hD, _⟩ := draws_at ns hl []
  rw [List.nil_append] at ed
  show wr ed
  obtain ⟨ps, hps, lps, eps⟩ := names_at ds 0 [.lst (ds.map .int)] rfl hD 3 (by omega)
  have D1 := hD.tail
  generalize ds.tail = ds1 at D1 eps
  match ps, hps, lps, eps with
  | [a, b, c], hps, _, eps =>
    have nd := hps.1
    have n1 : a ≠ b := fun z => by subst z; simp at nd
    have n2 : a ≠ c := fun z => by subst z; simp at nd
    have n4 : b ≠ c := fun z => by subst z; simp at nd
    have l0 : ([] : MH).length = 0 := rfl
    rw [l0] at *
    rw [show ([MC.lst (ds.map MV.int)] : MH).set 0 (.lst (ds1.map .int)) = [.lst (ds1.map .int)] from rfl, show [a, b, c].map MV.int = [.int a, .int b, .int c] from rfl] at eps
    show wr eps
    have z1 : ∀ (o5 o6 o7 : Option MV) (h : MH), xDisp [(xVar 2, xTupR xNil)] [some (.scr ns), some (.ref 0), some (.int a), some (.int b), some (.int c), o5, o6, o7] h = some (.dK (websV [(a, [])]), h) := fun _ _ _ h => rfl
    have z2 : ∀ (o5 o6 o7 : Option MV) (h : MH), xDisp [(xVar 2, xTupR xNil), (xVar 3, xTupR xNil)] [some (.scr ns), some (.ref 0), some (.int a), some (.int b), some (.int c), o5, o6, o7] h = some (.dK (websV [(a, []), (b, [])]), h) := fun _ _ _ h => by
      rw [← merge2' n1]; rfl
    have z3 : ∀ (o5 o6 o7 : Option MV) (h : MH), xDisp [(xVar 2, xTupR (xCons (xVar 3) xNil)), (xVar 3, xTupR (xCons (xVar 2) xNil))] [some (.scr ns), some (.ref 0), some (.int a), some (.int b), some (.int c), o5, o6, o7] h = some (.dK (websV [(a, [b]), (b, [a])]), h) := fun _ _ _ h => by
      rw [← merge2' n1]; rfl
    have z4 : ∀ (o5 o6 o7 : Option MV) (h : MH), xDisp [(xVar 2, xTupR xNil), (xVar 3, xTupR xNil), (xVar 4, xTupR xNil)] [some (.scr ns), some (.ref 0), some (.int a), some (.int b), some (.int c), o5, o6, o7] h = some (.dK (websV [(a, []), (b, []), (c, [])]), h) := fun _ _ _ h => by
      rw [← merge3 n1 n2 n4]; rfl
    have z5 : ∀ (o5 o6 o7 : Option MV) (h : MH), xDisp [(xVar 2, xTupR (xCons (xVar 3) xNil)), (xVar 3, xTupR (xCons (xVar 2) xNil)), (xVar 4, xTupR xNil)] [some (.scr ns), some (.ref 0), some (.int a), some (.int b), some (.int c), o5, o6, o7] h = some (.dK (websV [(a, [b]), (b, [a]), (c, [])]), h) := fun _ _ _ h => by
      rw [← merge3 n1 n2 n4]; rfl
    have z6 : ∀ (o5 o6 o7 : Option MV) (h : MH), xDisp [(xVar 2, xTupR (xCons (xVar 3) (xCons (xVar 4) xNil))), (xVar 3, xTupR (xCons (xVar 4) (xCons (xVar 2) xNil))), (xVar 4, xTupR (xCons (xVar 2) (xCons (xVar 3) xNil)))] [some (.scr ns), some (.ref 0), some (.int a), some (.int b), some (.int c), o5, o6, o7] h = some (.dK (websV (tri0 a b c)), h) := fun _ _ _ h => by
      rw [show tri0 a b c = [(a, [b, c]), (b, [c, a]), (c, [a, b])] from rfl, ← merge3 n1 n2 n4]; rfl
    have nd2 : [a, b].Nodup := by simp [n1]
    have nd3 : [a, b, c].Nodup := nd
    have small : ∀ x ∈ [MV.dK [], .dK (websV [(a, [])]), .dK (websV [(a, []), (b, [])]), .dK (websV [(a, [b]), (b, [a])])], ∃ U, x = .dK (websV U) ∧ Web U ∧ Flt U ∧ U.length < 3 := by
      intro x hx
      simp only [List.mem_cons, List.not_mem_nil, or_false] at hx
      rcases hx with rfl | rfl | rfl | rfl
      · exact ⟨[], rfl, lones_web (ps := []) List.nodup_nil, bare0, by simp⟩
      · exact ⟨_, rfl, lones_web (ps := [a]) (by simp), bare_flt (os := [a]) (by simp), by simp⟩
      · exact ⟨_, rfl, lones_web (ps := [a, b]) nd2, bare_flt (os := [a, b]) nd2, by simp⟩
      · obtain ⟨w, f⟩ := pair_flt [] (by simp) nd2
        exact ⟨_, rfl, w, f, by simp⟩
    have three : ∀ x ∈ [MV.dK (websV [(a, []), (b, []), (c, [])]), .dK (websV [(a, [b]), (b, [a]), (c, [])]), .dK (websV (tri0 a b c))], ∃ U, x = .dK (websV U) ∧ Web U ∧ Flt U ∧ U.length = 3 := by
      intro x hx
      simp only [List.mem_cons, List.not_mem_nil, or_false] at hx
      rcases hx with rfl | rfl | rfl
      · exact ⟨_, rfl, lones_web (ps := [a, b, c]) nd3, bare_flt (os := [a, b, c]) nd3, by simp⟩
      · obtain ⟨w, f⟩ := pair_flt [c] (by simp) nd3
        exact ⟨_, rfl, w, f, by simp⟩
      · have T := tri0_ok n1 n2 n4
        exact ⟨_, rfl, T.web, tri_flt T (grw_tri0 n1 n2 n4) (by simp [tri0]), rfl⟩
    have ne4 : ∀ (p q r s : Bool) (h : MH), opNe h (.lst [.bl p, .bl q, .bl r, .bl s]) (.lst [.bl p, .bl q, .bl r, .bl s]) = some (.bl false) := fun p q r s h => by
      cases p <;> cases q <;> cases r <;> cases s <;> rfl
    show wp
    show wr (z1 _ _ _ _)
    show wr (z2 _ _ _ _)
    show wr (z3 _ _ _ _)
    refine wfor (fun i s h => ∃ o5 o6 o7, s = [some (.scr ns), some (.ref 0), some (.int a), some (.int b), some (.int c), o5, o6, o7] ∧ h = [.lst (ds1.map .int)]) ⟨none, none, none, rfl, rfl⟩ ?_ ?_
    · rintro i x s h ex ⟨o5, o6, o7, rfl, rfl⟩
      obtain ⟨U, rfl, u, fu, lU⟩ := small x (List.mem_of_getElem? ex)
      unfold B1_law
      show wp
      show wr (twin_web U u.nd (by omega) _ _ (.inl rfl))
      show wr (refused_small _ U u fu lU)
      show wr (ne4 _ _ _ _ _)
      show wr (ne_webs _ u.nd)
      exact ⟨.inl rfl, _, _, _, rfl, rfl⟩
    rintro s h ⟨o5, o6, o7, rfl, rfl⟩
    show wp
    show wr (z4 _ _ _ _)
    show wr (z5 _ _ _ _)
    show wr (z6 _ _ _ _)
    refine wfor (fun i s h => ∃ o5 o6 o7, s = [some (.scr ns), some (.ref 0), some (.int a), some (.int b), some (.int c), o5, o6, o7] ∧ h = [.lst (ds1.map .int)]) ⟨_, _, _, rfl, rfl⟩ ?_ ?_
    · rintro i x s h ex ⟨o5, o6, o7, rfl, rfl⟩
      obtain ⟨U, rfl, u, fu, lU⟩ := three x (List.mem_of_getElem? ex)
      unfold B2_law
      show wp
      show wr (refused_ok _ U u (by omega) fu (by omega))
      show wp
      exact ⟨.inl rfl, _, _, _, rfl, rfl⟩
    rintro s h ⟨o5, o6, o7, rfl, rfl⟩
    show wp
    refine wfor (fun i s h => ∃ o5 o6 o7 ds', Drawn ds' ∧ s = [some (.scr ns), some (.ref 0), some (.int a), some (.int b), some (.int c), o5, o6, o7] ∧ h = [.lst (ds'.map .int)]) ⟨_, _, _, ds1, D1, rfl, rfl⟩ ?_ ?_
    · rintro i x s h ex ⟨o5, o6, o7, ds', D, rfl, rfl⟩
      obtain ⟨rfl, hi⟩ := rng_at ex
      obtain ⟨U, ds2, u, nf, lU, D2, ec⟩ := lcrooked_at [.lst (ds'.map .int)] 0 ds' rfl D
      unfold B3_law
      show wp
      show wr ec
      show wr (twin_web U u.nd (by omega) _ _ (.inl rfl))
      show wr (refused_not _ U u (by omega) nf)
      show wr (ne4 _ _ _ _ _)
      show wr (ne_webs _ u.nd)
      exact ⟨.inl rfl, _, _, _, ds2, D2, rfl, rfl⟩
    rintro s h ⟨o5, o6, o7, ds', D, rfl, rfl⟩
    obtain ⟨V, ds2, v, f, l3, l12, D2, e⟩ := some_full_flt [.lst (ds'.map .int)] 0 ds' rfl D
    show wp
    show wr e
    show wr (refused_ok _ V v (by omega) f l3)
    rfl


end
end Ew
end

section
set_option Elab.async false
set_option linter.all false
set_option maxRecDepth 100000
set_option maxHeartbeats 4000000
/-! the bridge of law_k20_fill_refused -/
namespace Ew
open PySem PySem.Spec PyProof.Rows L2
def topS (i : Nat) : Stmt := PySem.Challenge.pw_evenwalls_k20_fill_refused.main.body.getD i (.Pass ⟨0, 0, 0, 0⟩)
abbrev s_behind : Stmt := topS 6
theorem sc_behind : FnScope ["web", "u", "v", "row"] ["web", "u", "v"] (defScope s_behind) := ⟨rfl, rfl, rfl, by decide +kernel, rfl, by decide +kernel, by decide +kernel⟩
abbrev s_steps_of : Stmt := topS 7
theorem sc_steps_of : FnScope ["web", "found", "u", "v"] ["web"] (defScope s_steps_of) := ⟨rfl, rfl, rfl, by decide +kernel, rfl, by decide +kernel, by decide +kernel⟩
abbrev s_tie_name : Stmt := topS 11
theorem sc_tie_name : FnScope ["u", "v"] ["u", "v"] (defScope s_tie_name) := ⟨rfl, rfl, rfl, by decide +kernel, rfl, by decide +kernel, by decide +kernel⟩
abbrev s_ties : Stmt := topS 12
theorem sc_ties : FnScope ["web", "found", "u", "v"] ["web"] (defScope s_ties) := ⟨rfl, rfl, rfl, by decide +kernel, rfl, by decide +kernel, by decide +kernel⟩
abbrev s_within : Stmt := topS 13
theorem sc_within : FnScope ["web", "points", "chosen", "p", "found", "q"] ["web", "points"] (defScope s_within) := ⟨rfl, rfl, rfl, by decide +kernel, rfl, by decide +kernel, by decide +kernel⟩
abbrev s_part_of : Stmt := topS 15
theorem sc_part_of : FnScope ["web", "start", "seen", "found", "at", "q"] ["web", "start", "seen"] (defScope s_part_of) := ⟨rfl, rfl, rfl, by decide +kernel, rfl, by decide +kernel, by decide +kernel⟩
abbrev s_open_rows : Stmt := topS 21
theorem sc_open_rows : FnScope ["web", "rows", "p"] ["web"] (defScope s_open_rows) := ⟨rfl, rfl, rfl, by decide +kernel, rfl, by decide +kernel, by decide +kernel⟩
abbrev s_closed_rows : Stmt := topS 22
theorem sc_closed_rows : FnScope ["rows", "web", "p"] ["rows"] (defScope s_closed_rows) := ⟨rfl, rfl, rfl, by decide +kernel, rfl, by decide +kernel, by decide +kernel⟩
abbrev s_put_behind : Stmt := topS 23
theorem sc_put_behind : FnScope ["rows", "p", "q", "new", "at"] ["rows", "p", "q", "new"] (defScope s_put_behind) := ⟨rfl, rfl, rfl, by decide +kernel, rfl, by decide +kernel, by decide +kernel⟩
abbrev s_corner_to_cut : Stmt := topS 25
theorem sc_corner_to_cut : FnScope ["rows", "walk", "many", "at", "first", "last"] ["rows", "walk"] (defScope s_corner_to_cut) := ⟨rfl, rfl, rfl, by decide +kernel, rfl, by decide +kernel, by decide +kernel⟩
abbrev s__law_mixed : Stmt := topS 32
theorem sc__law_mixed : FnScope ["_law_cell", "_law_k", "_law_number"] ["_law_cell", "_law_k"] (defScope s__law_mixed) := ⟨rfl, rfl, rfl, by decide +kernel, rfl, by decide +kernel, by decide +kernel⟩
abbrev s__law_next : Stmt := topS 34
theorem sc__law_next : FnScope ["_law_drawn"] ["_law_drawn"] (defScope s__law_next) := ⟨rfl, rfl, rfl, by decide +kernel, rfl, by decide +kernel, by decide +kernel⟩
abbrev s__law_behind : Stmt := topS 36
theorem sc__law_behind : FnScope ["_law_rows", "_law_u", "_law_v", "_law_row"] ["_law_rows", "_law_u", "_law_v"] (defScope s__law_behind) := ⟨rfl, rfl, rfl, by decide +kernel, rfl, by decide +kernel, by decide +kernel⟩
abbrev s__law_put_behind : Stmt := topS 37
theorem sc__law_put_behind : FnScope ["_law_row", "_law_a", "_law_v", "_law_at"] ["_law_row", "_law_a", "_law_v"] (defScope s__law_put_behind) := ⟨rfl, rfl, rfl, by decide +kernel, rfl, by decide +kernel, by decide +kernel⟩
abbrev s__law_twin : Stmt := topS 41
theorem sc__law_twin : FnScope ["_law_web", "_law_another", "_law_p"] ["_law_web"] (defScope s__law_twin) := ⟨rfl, rfl, rfl, by decide +kernel, rfl, by decide +kernel, by decide +kernel⟩
abbrev s_face_from : Stmt := topS 8
theorem sc_face_from : FnScope ["web", "u", "v", "found", "step"] ["web", "u", "v"] (defScope s_face_from) := ⟨rfl, rfl, rfl, by decide +kernel, rfl, by decide +kernel, by decide +kernel⟩
abbrev s_parts : Stmt := topS 16
theorem sc_parts : FnScope ["web", "found", "seen", "p"] ["web"] (defScope s_parts) := ⟨rfl, rfl, rfl, by decide +kernel, rfl, by decide +kernel, by decide +kernel⟩
abbrev s_cut_corner : Stmt := topS 26
theorem sc_cut_corner : FnScope ["rows", "walk", "at", "many", "before", "first", "middle", "last"] ["rows", "walk", "at"] (defScope s_cut_corner) := ⟨rfl, rfl, rfl, by decide +kernel, rfl, by decide +kernel, by decide +kernel⟩
abbrev s__law_draws : Stmt := topS 33
theorem sc__law_draws : FnScope ["_law_script", "_law_drawn", "_law_k", "_law_cell", "_law_j"] ["_law_script"] (defScope s__law_draws) := ⟨rfl, rfl, rfl, by decide +kernel, rfl, by decide +kernel, by decide +kernel⟩
abbrev s__law_names : Stmt := topS 35
theorem sc__law_names : FnScope ["_law_drawn", "_law_many", "_law_number", "_law_step", "_law_k"] ["_law_drawn", "_law_many"] (defScope s__law_names) := ⟨rfl, rfl, rfl, by decide +kernel, rfl, by decide +kernel, by decide +kernel⟩
abbrev s__law_stand_in : Stmt := topS 38
theorem sc__law_stand_in : FnScope ["_law_rows", "_law_p", "_law_x", "_law_y", "_law_z"] ["_law_rows", "_law_p", "_law_x", "_law_y", "_law_z"] (defScope s__law_stand_in) := ⟨rfl, rfl, rfl, by decide +kernel, rfl, by decide +kernel, by decide +kernel⟩
abbrev s__law_begun : Stmt := topS 40
theorem sc__law_begun : FnScope ["_law_drawn", "_law_rows", "_law_number", "_law_web", "_law_points", "_law_turn", "_law_u", "_law_at"] ["_law_drawn", "_law_rows"] (defScope s__law_begun) := ⟨rfl, rfl, rfl, by decide +kernel, rfl, by decide +kernel, by decide +kernel⟩
abbrev s__law_changed : Stmt := topS 45
theorem sc__law_changed : FnScope ["_law_drawn", "_law_web", "_law_number", "_law_some", "_law_p", "_law_found", "_law_row", "_law_at"] ["_law_drawn", "_law_web"] (defScope s__law_changed) := ⟨rfl, rfl, rfl, by decide +kernel, rfl, by decide +kernel, by decide +kernel⟩
abbrev s__law_beside : Stmt := topS 46
theorem sc__law_beside : FnScope ["_law_web", "_law_drawn", "_law_found", "_law_number", "_law_k", "_law_p", "_law_q"] ["_law_web", "_law_drawn"] (defScope s__law_beside) := ⟨rfl, rfl, rfl, by decide +kernel, rfl, by decide +kernel, by decide +kernel⟩
abbrev s_faces : Stmt := topS 9
theorem sc_faces : FnScope ["web", "found", "seen", "u", "v", "face", "step"] ["web"] (defScope s_faces) := ⟨rfl, rfl, rfl, by decide +kernel, rfl, by decide +kernel, by decide +kernel⟩
abbrev s_join_parts : Stmt := topS 24
theorem sc_join_parts : FnScope ["web", "rows", "firsts", "part", "found", "k", "u", "v"] ["web", "rows"] (defScope s_join_parts) := ⟨rfl, rfl, rfl, by decide +kernel, rfl, by decide +kernel, by decide +kernel⟩
abbrev s_cut_face : Stmt := topS 27
theorem sc_cut_face : FnScope ["rows", "u", "v", "found", "walk", "step"] ["rows", "u", "v"] (defScope s_cut_face) := ⟨rfl, rfl, rfl, by decide +kernel, rfl, by decide +kernel, by decide +kernel⟩
abbrev s__law_full : Stmt := topS 39
theorem sc__law_full : FnScope ["_law_drawn", "_law_names_here", "_law_a", "_law_b", "_law_c", "_law_rows", "_law_steps", "_law_p", "_law_x", "_law_y", "_law_z"] ["_law_drawn", "_law_names_here"] (defScope s__law_full) := ⟨rfl, rfl, rfl, by decide +kernel, rfl, by decide +kernel, by decide +kernel⟩
abbrev s__law_crossed : Stmt := topS 44
theorem sc__law_crossed : FnScope ["_law_drawn", "_law_names_here", "_law_number", "_law_web", "_law_p", "_law_others", "_law_q", "_law_at"] ["_law_drawn"] (defScope s__law_crossed) := ⟨rfl, rfl, rfl, by decide +kernel, rfl, by decide +kernel, by decide +kernel⟩
abbrev s_is_flat_part : Stmt := topS 17
theorem sc_is_flat_part : FnScope ["web", "part", "alone"] ["web", "part"] (defScope s_is_flat_part) := ⟨rfl, rfl, rfl, by decide +kernel, rfl, by decide +kernel, by decide +kernel⟩
abbrev s__law_some_full : Stmt := topS 42
theorem sc__law_some_full : FnScope ["_law_drawn", "_law_most", "_law_names_here"] ["_law_drawn", "_law_most"] (defScope s__law_some_full) := ⟨rfl, rfl, rfl, by decide +kernel, rfl, by decide +kernel, by decide +kernel⟩
abbrev s__law_crooked : Stmt := topS 47
theorem sc__law_crooked : FnScope ["_law_drawn", "_law_names_here"] ["_law_drawn"] (defScope s__law_crooked) := ⟨rfl, rfl, rfl, by decide +kernel, rfl, by decide +kernel, by decide +kernel⟩
abbrev s_crooked : Stmt := topS 18
theorem sc_crooked : FnScope ["web", "part"] ["web"] (defScope s_crooked) := ⟨rfl, rfl, rfl, by decide +kernel, rfl, by decide +kernel, by decide +kernel⟩
abbrev s_is_flat : Stmt := topS 19
theorem sc_is_flat : FnScope ["web"] ["web"] (defScope s_is_flat) := ⟨rfl, rfl, rfl, by decide +kernel, rfl, by decide +kernel, by decide +kernel⟩
abbrev s_filled : Stmt := topS 30
theorem sc_filled : FnScope ["web", "rows", "pairs", "u", "v"] ["web"] (defScope s_filled) := ⟨rfl, rfl, rfl, by decide +kernel, rfl, by decide +kernel, by decide +kernel⟩
abbrev s__law_refused : Stmt := topS 43
theorem sc__law_refused : FnScope ["_law_web", "_law_kept", "e"] ["_law_web"] (defScope s__law_refused) := ⟨rfl, rfl, rfl, by decide +kernel, rfl, by decide +kernel, by decide +kernel⟩
abbrev s_law : Stmt := topS 48
theorem sc_law : FnScope ["_law_script", "_law_drawn", "_law_p", "_law_q", "_law_r", "_law_web", "_law_twin_here", "_law_k"] ["_law_script"] (defScope s_law) := ⟨rfl, rfl, rfl, by decide +kernel, rfl, by decide +kernel, by decide +kernel⟩
section
variable [Tabs] {P : Program} {w : World} {K : PySem.W.Frag} {mg : Str → Option Value} {base : Heap} {cA : Nat → Addr}
theorem ok_behind {f : Addr} {fd : FuncData} (F : L2.Fun K "behind" "behind" s_behind f fd) (hg : mg "behind" = some (.ref f)) (m_len : mg "len" = none) : Cal P w K mg base "behind" 3 (spM K 3 g_behind) 1 :=
  def_ok (b := b_behind) F hg sc_behind (fun _ _ _ _ _ _ us hl => match us, hl with | [_, _, _], _ => rfl) fun cdv A outer s H E hr =>
    (ms_cons (ms_asg (me_ix hr (me_var (i := 0)) (me_var (i := 2))) (mg_nm (n := 3) sc_behind.nd))
    (ms_one (ms_ret (me_tup (ma_cons (me_var (i := 2)) (ma_cons (me_ix hr (me_var (i := 3)) (me_mod (me_add (me_indexL (me_var (i := 3)) (me_var (i := 1))) me_int) (me_len m_len (ma_cons (me_var (i := 3)) ma_nil)))) ma_nil))))))
theorem ok_steps_of {f : Addr} {fd : FuncData} (F : L2.Fun K "steps_of" "steps_of" s_steps_of f fd) (hg : mg "steps_of" = some (.ref f)) (m_sorted : mg "sorted" = none) : Cal P w K mg base "steps_of" 1 (spM K 1 g_steps_of) 1 :=
  def_ok (b := b_steps_of) F hg sc_steps_of (fun _ _ _ _ _ _ us hl => match us, hl with | [_], _ => rfl) fun cdv A outer s H E hr =>
    (ms_cons (ms_asg (me_box (mf_lst ma_nil)) (mg_nm (n := 1) sc_steps_of.nd))
    (ms_cons (ms_for (x := B1_steps_of) (mi_seq (MF.me (mf_sortKeys m_sorted (me_var (i := 0))))) (mg_nm (n := 2) sc_steps_of.nd) (ms_one (ms_expr (me_extend (me_var (i := 1)) (MF.me (mf_lc sc_steps_of.nd (own := [("v", 3)]) (mi_seq (MF.me (mf_sorted m_sorted (ma_cons (me_ix hr (me_var (i := 0)) (me_var (i := 2))) ma_nil)))) (show blkC ["web", "found", "u", "v"] (defScope s_steps_of) _ _ = true from by decide +kernel) (tgok_nm (by decide)) (fun _ _ _ _ _ => (pg_name (i := 3) sc_steps_of.nd rfl (Or.inl rfl))) (fun _ _ _ _ _ => mts_nil) (fun _ _ _ _ _ => (me_tup (ma_cons (me_var (i := 2)) (ma_cons (me_var (i := 3)) ma_nil))))))))))
    (ms_one (ms_ret (me_var (i := 1))))))
theorem ok_tie_name {f : Addr} {fd : FuncData} (F : L2.Fun K "tie_name" "tie_name" s_tie_name f fd) (hg : mg "tie_name" = some (.ref f)) (m_max : mg "max" = none) (m_min : mg "min" = none) : Cal P w K mg base "tie_name" 2 (spM K 2 g_tie_name) 1 :=
  def_ok (b := b_tie_name) F hg sc_tie_name (fun _ _ _ _ _ _ us hl => match us, hl with | [_, _], _ => rfl) fun cdv A outer s H E hr =>
    (ms_one (ms_ret (me_tup (ma_cons (me_min2 m_min (ma_cons (me_var (i := 0)) (ma_cons (me_var (i := 1)) ma_nil))) (ma_cons (me_max2 m_max (ma_cons (me_var (i := 0)) (ma_cons (me_var (i := 1)) ma_nil))) ma_nil)))))
theorem ok_ties {f : Addr} {fd : FuncData} (F : L2.Fun K "ties" "ties" s_ties f fd) (hg : mg "ties" = some (.ref f)) (m_sorted : mg "sorted" = none) : Cal P w K mg base "ties" 1 (spM K 1 g_ties) 1 :=
  def_ok (b := b_ties) F hg sc_ties (fun _ _ _ _ _ _ us hl => match us, hl with | [_], _ => rfl) fun cdv A outer s H E hr =>
    (ms_cons (ms_asg (me_box (mf_lst ma_nil)) (mg_nm (n := 1) sc_ties.nd))
    (ms_cons (ms_for (x := B1_ties) (mi_seq (MF.me (mf_sortKeys m_sorted (me_var (i := 0))))) (mg_nm (n := 2) sc_ties.nd) (ms_one (ms_expr (me_extend (me_var (i := 1)) (MF.me (mf_lc sc_ties.nd (own := [("v", 3)]) (mi_seq (MF.me (mf_sorted m_sorted (ma_cons (me_ix hr (me_var (i := 0)) (me_var (i := 2))) ma_nil)))) (show blkC ["web", "found", "u", "v"] (defScope s_ties) _ _ = true from by decide +kernel) (tgok_nm (by decide)) (fun _ _ _ _ _ => (pg_name (i := 3) sc_ties.nd rfl (Or.inl rfl))) (fun _ _ _ _ _ => (mts_one (c_lt (me_var (i := 2)) (me_var (i := 3))).2)) (fun _ _ _ _ _ => (me_tup (ma_cons (me_var (i := 2)) (ma_cons (me_var (i := 3)) ma_nil))))))))))
    (ms_one (ms_ret (me_var (i := 1))))))
theorem ok_within {f : Addr} {fd : FuncData} (F : L2.Fun K "within" "within" s_within f fd) (hg : mg "within" = some (.ref f)) (m_tuple : mg "tuple" = none) : Cal P w K mg base "within" 2 (spM K 2 g_within) 1 :=
  def_ok (b := b_within) F hg sc_within (fun _ _ _ _ _ _ us hl => match us, hl with | [_, _], _ => rfl) fun cdv A outer s H E hr =>
    (ms_cons (ms_asg (me_box mf_dnewK) (mg_nm (n := 2) sc_within.nd))
    (ms_cons (ms_for (x := B1_within) (mi_seq (me_var (i := 1))) (mg_nm (n := 3) sc_within.nd) (ms_one (ms_put hr (me_var (i := 2)) (me_var (i := 3)) me_bl)))
    (ms_cons (ms_asg (me_box mf_dnewK) (mg_nm (n := 4) sc_within.nd))
    (ms_cons (ms_for (x := B2_within) (mi_seq (me_var (i := 1))) (mg_nm (n := 3) sc_within.nd) (ms_one (ms_put hr (me_var (i := 4)) (me_var (i := 3)) (me_tuple m_tuple (ma_cons (MF.me (mf_lc sc_within.nd (own := [("q", 5)]) (mi_seq (me_ix hr (me_var (i := 0)) (me_var (i := 3)))) (show blkC ["web", "points", "chosen", "p", "found", "q"] (defScope s_within) _ _ = true from by decide +kernel) (tgok_nm (by decide)) (fun _ _ _ _ _ => (pg_name (i := 5) sc_within.nd rfl (Or.inl rfl))) (fun _ _ _ _ _ => (mts_one (c_in hr (me_var (i := 5)) (me_var (i := 2))).2)) (fun _ _ _ _ _ => (me_var (i := 5))))) ma_nil)))))
    (ms_one (ms_ret (me_var (i := 4))))))))
theorem ok_part_of {f : Addr} {fd : FuncData} (F : L2.Fun K "part_of" "part_of" s_part_of f fd) (hg : mg "part_of" = some (.ref f)) (m_len : mg "len" = none) (m_tuple : mg "tuple" = none) (m_sorted : mg "sorted" = none) : Cal P w K mg base "part_of" 3 (spM K 3 g_part_of) 1 :=
  def_ok (b := b_part_of) F hg sc_part_of (fun _ _ _ _ _ _ us hl => match us, hl with | [_, _, _], _ => rfl) fun cdv A outer s H E hr =>
    (ms_cons (ms_asg (me_box (mf_lst (ma_cons (me_var (i := 1)) ma_nil))) (mg_nm (n := 3) sc_part_of.nd))
    (ms_cons (ms_put hr (me_var (i := 2)) (me_var (i := 1)) me_bl)
    (ms_cons (ms_asg me_int (mg_nm (n := 4) sc_part_of.nd))
    (ms_cons (ms_while (ta := W1_part_of) (x := B1_part_of) (c_lt (me_var (i := 4)) (me_len m_len (ma_cons (me_var (i := 3)) ma_nil))).2 (ms_cons (ms_for (x := B2_part_of) (mi_seq (me_ix hr (me_var (i := 0)) (me_ix hr (me_var (i := 3)) (me_var (i := 4))))) (mg_nm (n := 5) sc_part_of.nd) (ms_one (ms_if (c_notin hr (me_var (i := 5)) (me_var (i := 2))).2 (ms_cons (ms_put hr (me_var (i := 2)) (me_var (i := 5)) me_bl)
    (ms_one (ms_expr (me_append (me_var (i := 3)) (me_var (i := 5)))))) ms_nil)))
    (ms_one (ms_asg (me_add (me_var (i := 4)) me_int) (mg_nm (n := 4) sc_part_of.nd)))))
    (ms_one (ms_ret (me_tuple m_tuple (ma_cons (MF.me (mf_sorted m_sorted (ma_cons (me_var (i := 3)) ma_nil))) ma_nil))))))))
theorem ok_open_rows {f : Addr} {fd : FuncData} (F : L2.Fun K "open_rows" "open_rows" s_open_rows f fd) (hg : mg "open_rows" = some (.ref f)) (m_list : mg "list" = none) : Cal P w K mg base "open_rows" 1 (spM K 1 g_open_rows) 1 :=
  def_ok (b := b_open_rows) F hg sc_open_rows (fun _ _ _ _ _ _ us hl => match us, hl with | [_], _ => rfl) fun cdv A outer s H E hr =>
    (ms_cons (ms_asg (me_box mf_dnewK) (mg_nm (n := 1) sc_open_rows.nd))
    (ms_cons (ms_forK (n := 0) (x := B1_open_rows) rfl (mg_nm (n := 2) sc_open_rows.nd) (ms_one (ms_put hr (me_var (i := 1)) (me_var (i := 2)) (MF.me (mf_list m_list (ma_cons (me_ix hr (me_var (i := 0)) (me_var (i := 2))) ma_nil))))))
    (ms_one (ms_ret (me_var (i := 1))))))
theorem ok_closed_rows {f : Addr} {fd : FuncData} (F : L2.Fun K "closed_rows" "closed_rows" s_closed_rows f fd) (hg : mg "closed_rows" = some (.ref f)) (m_tuple : mg "tuple" = none) : Cal P w K mg base "closed_rows" 1 (spM K 1 g_closed_rows) 1 :=
  def_ok (b := b_closed_rows) F hg sc_closed_rows (fun _ _ _ _ _ _ us hl => match us, hl with | [_], _ => rfl) fun cdv A outer s H E hr =>
    (ms_cons (ms_asg (me_box mf_dnewK) (mg_nm (n := 1) sc_closed_rows.nd))
    (ms_cons (ms_forK (n := 0) (x := B1_closed_rows) rfl (mg_nm (n := 2) sc_closed_rows.nd) (ms_one (ms_put hr (me_var (i := 1)) (me_var (i := 2)) (me_tuple m_tuple (ma_cons (me_ix hr (me_var (i := 0)) (me_var (i := 2))) ma_nil)))))
    (ms_one (ms_ret (me_var (i := 1))))))
theorem ok_put_behind {f : Addr} {fd : FuncData} (F : L2.Fun K "put_behind" "put_behind" s_put_behind f fd) (hg : mg "put_behind" = some (.ref f))  : Cal P w K mg base "put_behind" 4 (spM K 4 g_put_behind) 1 :=
  def_ok (b := b_put_behind) F hg sc_put_behind (fun _ _ _ _ _ _ us hl => match us, hl with | [_, _, _, _], _ => rfl) fun cdv A outer s H E hr =>
    (ms_cons (ms_asg (me_add (me_indexL (me_ix hr (me_var (i := 0)) (me_var (i := 1))) (me_var (i := 2))) me_int) (mg_nm (n := 4) sc_put_behind.nd))
    (ms_one (ms_put hr (me_var (i := 0)) (me_var (i := 1)) (MF.me (mf_cat (MF.me (mf_cat (MF.me (mf_slL (me_ix hr (me_var (i := 0)) (me_var (i := 1))) mo_none (mo_some (me_var (i := 4))))) (MF.me (mf_lst (ma_cons (me_var (i := 3)) ma_nil))))) (MF.me (mf_slL (me_ix hr (me_var (i := 0)) (me_var (i := 1))) (mo_some (me_var (i := 4))) mo_none)))))))
theorem ok_corner_to_cut {f : Addr} {fd : FuncData} (F : L2.Fun K "corner_to_cut" "corner_to_cut" s_corner_to_cut f fd) (hg : mg "corner_to_cut" = some (.ref f)) (m_len : mg "len" = none) (m_range : mg "range" = none) : Cal P w K mg base "corner_to_cut" 2 (spM K 2 g_corner_to_cut) 1 :=
  def_ok (b := b_corner_to_cut) F hg sc_corner_to_cut (fun _ _ _ _ _ _ us hl => match us, hl with | [_, _], _ => rfl) fun cdv A outer s H E hr =>
    (ms_cons (ms_asg (me_len m_len (ma_cons (me_var (i := 1)) ma_nil)) (mg_nm (n := 2) sc_corner_to_cut.nd))
    (ms_cons (ms_for (x := B1_corner_to_cut) (mi_range1 m_range (me_var (i := 2))) (mg_nm (n := 3) sc_corner_to_cut.nd) (ms_cons (ms_asg (me_ix hr (me_ix hr (me_var (i := 1)) (me_var (i := 3))) me_int) (mg_nm (n := 4) sc_corner_to_cut.nd))
    (ms_cons (ms_asg (me_ix hr (me_ix hr (me_var (i := 1)) (me_mod (me_add (me_var (i := 3)) me_int) (me_var (i := 2)))) me_int) (mg_nm (n := 5) sc_corner_to_cut.nd))
    (ms_one (ms_if (PW.pt (mw_and (c_neA hr (me_var (i := 4)) (me_var (i := 5))).2 (mw_and1 (c_notin hr (me_var (i := 5)) (me_ix hr (me_var (i := 0)) (me_var (i := 4)))).2))) (ms_one (ms_ret (me_var (i := 3)))) ms_nil)))))
    (ms_one (ms_ret (me_neg me_int)))))
theorem ok__law_mixed {f : Addr} {fd : FuncData} (F : L2.Fun K "_law_mixed" "_law_mixed" s__law_mixed f fd) (hg : mg "_law_mixed" = some (.ref f))  : Cal P w K mg base "_law_mixed" 2 (spM K 2 g__law_mixed) 1 :=
  def_ok (b := b__law_mixed) F hg sc__law_mixed (fun _ _ _ _ _ _ us hl => match us, hl with | [_, _], _ => rfl) fun cdv A outer s H E hr =>
    (ms_cons (ms_asg (me_mod (me_add (me_add (me_mul (me_mod (me_var (i := 0)) me_int) me_int) (me_mul (me_mul me_int (me_var (i := 1))) (me_var (i := 1)))) me_int) me_int) (mg_nm (n := 2) sc__law_mixed.nd))
    (ms_one (ms_ret (me_mod (me_mul (me_var (i := 2)) (me_var (i := 2))) me_int))))
theorem ok__law_next {f : Addr} {fd : FuncData} (F : L2.Fun K "_law_next" "_law_next" s__law_next f fd) (hg : mg "_law_next" = some (.ref f))  : Cal P w K mg base "_law_next" 1 (spM K 1 g__law_next) 1 :=
  def_ok (b := b__law_next) F hg sc__law_next (fun _ _ _ _ _ _ us hl => match us, hl with | [_], _ => rfl) fun cdv A outer s H E hr =>
    (ms_cons (ms_if (c_eqA hr (me_var (i := 0)) (MF.me (mf_lst ma_nil))).2 (ms_one (ms_ret me_int)) ms_nil)
    (ms_one (ms_ret (me_popAt (me_var (i := 0)) me_int))))
theorem ok__law_behind {f : Addr} {fd : FuncData} (F : L2.Fun K "_law_behind" "_law_behind" s__law_behind f fd) (hg : mg "_law_behind" = some (.ref f)) (m_len : mg "len" = none) : Cal P w K mg base "_law_behind" 3 (spM K 3 g__law_behind) 1 :=
  def_ok (b := b__law_behind) F hg sc__law_behind (fun _ _ _ _ _ _ us hl => match us, hl with | [_, _, _], _ => rfl) fun cdv A outer s H E hr =>
    (ms_cons (ms_asg (me_ix hr (me_var (i := 0)) (me_var (i := 2))) (mg_nm (n := 3) sc__law_behind.nd))
    (ms_one (ms_ret (me_tup (ma_cons (me_var (i := 2)) (ma_cons (me_ix hr (me_var (i := 3)) (me_mod (me_add (me_indexL (me_var (i := 3)) (me_var (i := 1))) me_int) (me_len m_len (ma_cons (me_var (i := 3)) ma_nil)))) ma_nil))))))
theorem ok__law_put_behind {f : Addr} {fd : FuncData} (F : L2.Fun K "_law_put_behind" "_law_put_behind" s__law_put_behind f fd) (hg : mg "_law_put_behind" = some (.ref f))  : Cal P w K mg base "_law_put_behind" 3 (spM K 3 g__law_put_behind) 1 :=
  def_ok (b := b__law_put_behind) F hg sc__law_put_behind (fun _ _ _ _ _ _ us hl => match us, hl with | [_, _, _], _ => rfl) fun cdv A outer s H E hr =>
    (ms_cons (ms_asg (me_add (me_indexL (me_var (i := 0)) (me_var (i := 1))) me_int) (mg_nm (n := 3) sc__law_put_behind.nd))
    (ms_one (ms_ret (MF.me (mf_cat (MF.me (mf_cat (MF.me (mf_slL (me_var (i := 0)) mo_none (mo_some (me_var (i := 3))))) (MF.me (mf_lst (ma_cons (me_var (i := 2)) ma_nil))))) (MF.me (mf_slL (me_var (i := 0)) (mo_some (me_var (i := 3))) mo_none)))))))
theorem ok__law_twin {f : Addr} {fd : FuncData} (F : L2.Fun K "_law_twin" "_law_twin" s__law_twin f fd) (hg : mg "_law_twin" = some (.ref f))  : Cal P w K mg base "_law_twin" 1 (spM K 1 g__law_twin) 1 :=
  def_ok (b := b__law_twin) F hg sc__law_twin (fun _ _ _ _ _ _ us hl => match us, hl with | [_], _ => rfl) fun cdv A outer s H E hr =>
    (ms_cons (ms_asg (me_box mf_dnewK) (mg_nm (n := 1) sc__law_twin.nd))
    (ms_cons (ms_forK (n := 0) (x := B1__law_twin) rfl (mg_nm (n := 2) sc__law_twin.nd) (ms_one (ms_put hr (me_var (i := 1)) (me_var (i := 2)) (me_ix hr (me_var (i := 0)) (me_var (i := 2))))))
    (ms_one (ms_ret (me_var (i := 1))))))
theorem ok_face_from {f : Addr} {fd : FuncData} (F : L2.Fun K "face_from" "face_from" s_face_from f fd) (hg : mg "face_from" = some (.ref f)) (C_behind : Cal P w K mg base "behind" 3 (spM K 3 g_behind) 1) : Cal P w K mg base "face_from" 3 (spM K 3 g_face_from) 2 :=
  def_ok (b := b_face_from) F hg sc_face_from (fun _ _ _ _ _ _ us hl => match us, hl with | [_, _, _], _ => rfl) fun cdv A outer s H E hr =>
    (ms_cons (ms_asg (me_box (mf_lst (ma_cons (me_tup (ma_cons (me_var (i := 1)) (ma_cons (me_var (i := 2)) ma_nil))) ma_nil))) (mg_nm (n := 3) sc_face_from.nd))
    (ms_cons (ms_asg (me_call C_behind hr (ma_cons (me_var (i := 0)) (ma_cons (me_var (i := 1)) (ma_cons (me_var (i := 2)) ma_nil)))) (mg_nm (n := 4) sc_face_from.nd))
    (ms_cons (ms_while (ta := W1_face_from) (x := B1_face_from) (c_neA hr (me_var (i := 4)) (me_tup (ma_cons (me_var (i := 1)) (ma_cons (me_var (i := 2)) ma_nil)))).2 (ms_cons (ms_expr (me_append (me_var (i := 3)) (me_var (i := 4))))
    (ms_one (ms_asg (me_call C_behind hr (ma_cons (me_var (i := 0)) (ma_cons (me_ix hr (me_var (i := 4)) me_int) (ma_cons (me_ix hr (me_var (i := 4)) me_int) ma_nil)))) (mg_nm (n := 4) sc_face_from.nd)))))
    (ms_one (ms_ret (me_var (i := 3)))))))
theorem ok_parts {f : Addr} {fd : FuncData} (F : L2.Fun K "parts" "parts" s_parts f fd) (hg : mg "parts" = some (.ref f)) (C_part_of : Cal P w K mg base "part_of" 3 (spM K 3 (toldV Ew.g_part_of)) 1) (m_sorted : mg "sorted" = none) : Cal P w K mg base "parts" 1 (spM K 1 g_parts) 2 :=
  def_ok (b := b_parts) F hg sc_parts (fun _ _ _ _ _ _ us hl => match us, hl with | [_], _ => rfl) fun cdv A outer s H E hr =>
    (ms_cons (ms_asg (me_box (mf_lst ma_nil)) (mg_nm (n := 1) sc_parts.nd))
    (ms_cons (ms_asg (me_box mf_dnewK) (mg_nm (n := 2) sc_parts.nd))
    (ms_cons (ms_for (x := B1_parts) (mi_seq (MF.me (mf_sortKeys m_sorted (me_var (i := 0))))) (mg_nm (n := 3) sc_parts.nd) (ms_one (ms_if (c_notin hr (me_var (i := 3)) (me_var (i := 2))).2 (ms_one (ms_expr (me_append (me_var (i := 1)) (me_call C_part_of hr (ma_cons (me_var (i := 0)) (ma_cons (me_var (i := 3)) (ma_cons (me_var (i := 2)) ma_nil))))))) ms_nil)))
    (ms_one (ms_ret (me_var (i := 1)))))))
theorem ok_cut_corner {f : Addr} {fd : FuncData} (F : L2.Fun K "cut_corner" "cut_corner" s_cut_corner f fd) (hg : mg "cut_corner" = some (.ref f)) (C_put_behind : Cal P w K mg base "put_behind" 4 (spM K 4 g_put_behind) 1) (m_len : mg "len" = none) : Cal P w K mg base "cut_corner" 3 (spM K 3 g_cut_corner) 2 :=
  def_ok (b := b_cut_corner) F hg sc_cut_corner (fun _ _ _ _ _ _ us hl => match us, hl with | [_, _, _], _ => rfl) fun cdv A outer s H E hr =>
    (ms_cons (ms_asg (me_len m_len (ma_cons (me_var (i := 1)) ma_nil)) (mg_nm (n := 3) sc_cut_corner.nd))
    (ms_cons (ms_asg (me_ix hr (me_ix hr (me_var (i := 1)) (me_sub (me_var (i := 2)) me_int)) me_int) (mg_nm (n := 4) sc_cut_corner.nd))
    (ms_cons (ms_asg (me_ix hr (me_ix hr (me_var (i := 1)) (me_var (i := 2))) me_int) (mg_nm (n := 5) sc_cut_corner.nd))
    (ms_cons (ms_asg (me_ix hr (me_ix hr (me_var (i := 1)) (me_mod (me_add (me_var (i := 2)) me_int) (me_var (i := 3)))) me_int) (mg_nm (n := 6) sc_cut_corner.nd))
    (ms_cons (ms_asg (me_ix hr (me_ix hr (me_var (i := 1)) (me_mod (me_add (me_var (i := 2)) me_int) (me_var (i := 3)))) me_int) (mg_nm (n := 7) sc_cut_corner.nd))
    (ms_cons (ms_expr (me_call C_put_behind hr (ma_cons (me_var (i := 0)) (ma_cons (me_var (i := 5)) (ma_cons (me_var (i := 4)) (ma_cons (me_var (i := 7)) ma_nil))))))
    (ms_cons (ms_expr (me_call C_put_behind hr (ma_cons (me_var (i := 0)) (ma_cons (me_var (i := 7)) (ma_cons (me_var (i := 6)) (ma_cons (me_var (i := 5)) ma_nil))))))
    (ms_one (ms_ret (me_tup (ma_cons (me_var (i := 5)) (ma_cons (me_var (i := 7)) ma_nil))))))))))))
theorem ok__law_draws {f : Addr} {fd : FuncData} (F : L2.Fun K "_law_draws" "_law_draws" s__law_draws f fd) (hg : mg "_law_draws" = some (.ref f)) (C__law_mixed : Cal P w K mg base "_law_mixed" 2 (spM K 2 g__law_mixed) 1) (m_range : mg "range" = none) (m_min : mg "min" = none) (m_len : mg "len" = none) (m_abs : mg "abs" = none) : Cal P w K mg base "_law_draws" 1 (spM K 1 g__law_draws) 2 :=
  def_ok (b := b__law_draws) F hg sc__law_draws (fun _ _ _ _ _ _ us hl => match us, hl with | [_], _ => rfl) fun cdv A outer s H E hr =>
    (ms_cons (ms_asg (me_box (mf_lst ma_nil)) (mg_nm (n := 1) sc__law_draws.nd))
    (ms_cons (ms_for (x := B1__law_draws) (mi_range1 m_range (me_min2 m_min (ma_cons (me_len m_len (ma_cons (me_var (i := 0)) ma_nil)) (ma_cons me_int ma_nil)))) (mg_nm (n := 2) sc__law_draws.nd) (ms_cons (ms_asg (me_abs m_abs (ma_cons (me_ix hr (me_var (i := 0)) (me_var (i := 2))) ma_nil)) (mg_nm (n := 3) sc__law_draws.nd))
    (ms_cons (ms_if (c_lt (me_var (i := 3)) (me_pow me_int me_int)).2 (ms_one (ms_for (x := B2__law_draws) (mi_range1 m_range me_int) (mg_nm (n := 4) sc__law_draws.nd) (ms_one (ms_expr (me_append (me_var (i := 1)) (me_call C__law_mixed hr (ma_cons (me_call C__law_mixed hr (ma_cons (me_var (i := 3)) (ma_cons (me_add (me_mul me_int (me_var (i := 4))) me_int) ma_nil))) (ma_cons (me_add (me_add (me_var (i := 4)) (me_var (i := 2))) me_int) ma_nil)))))))) ms_nil)
    (ms_cons (ms_while (ta := W3__law_draws) (x := B3__law_draws) (PW.pt (mw_and (c_ge (me_var (i := 3)) (me_pow me_int me_int)).2 (mw_and1 (c_lt (me_len m_len (ma_cons (me_var (i := 1)) ma_nil)) me_int).2))) (ms_cons (ms_expr (me_append (me_var (i := 1)) (me_mod (me_var (i := 3)) me_int)))
    (ms_one (ms_asg (me_div (me_var (i := 3)) me_int) (mg_nm (n := 3) sc__law_draws.nd)))))
    (ms_one (ms_if (c_ge (me_var (i := 3)) me_int).2 (ms_one (ms_expr (me_append (me_var (i := 1)) (me_mod (me_var (i := 3)) me_int)))) ms_nil))))))
    (ms_one (ms_ret (me_var (i := 1))))))
theorem ok__law_names {f : Addr} {fd : FuncData} (F : L2.Fun K "_law_names" "_law_names" s__law_names f fd) (hg : mg "_law_names" = some (.ref f)) (C__law_next : Cal P w K mg base "_law_next" 1 (spM K 1 g__law_next) 1) (m_range : mg "range" = none) : Cal P w K mg base "_law_names" 2 (spM K 2 g__law_names) 2 :=
  def_ok (b := b__law_names) F hg sc__law_names (fun _ _ _ _ _ _ us hl => match us, hl with | [_, _], _ => rfl) fun cdv A outer s H E hr =>
    (ms_cons (ms_asg (me_call C__law_next hr (ma_cons (me_var (i := 0)) ma_nil)) (mg_nm (n := 2) sc__law_names.nd))
    (ms_cons (ms_asg (me_ix hr (MF.me (mf_lst (ma_cons me_int (ma_cons me_int (ma_cons me_int (ma_cons me_int (ma_cons me_int (ma_cons me_int (ma_cons me_int (ma_cons me_int (ma_cons me_int (ma_cons me_int ma_nil)))))))))))) (me_mod (me_div (me_var (i := 2)) me_int) me_int)) (mg_nm (n := 3) sc__law_names.nd))
    (ms_one (ms_ret (MF.me (mf_lc sc__law_names.nd (own := [("_law_k", 4)]) (mi_range1 m_range (me_var (i := 1))) (show blkC ["_law_drawn", "_law_many", "_law_number", "_law_step", "_law_k"] (defScope s__law_names) _ _ = true from by decide +kernel) (tgok_nm (by decide)) (fun _ _ _ _ _ => (pg_name (i := 4) sc__law_names.nd rfl (Or.inl rfl))) (fun _ _ _ _ _ => mts_nil) (fun _ _ _ _ _ => (me_mod (me_add (me_mod (me_var (i := 2)) me_int) (me_mul (me_var (i := 4)) (me_var (i := 3)))) me_int))))))))
theorem ok__law_stand_in {f : Addr} {fd : FuncData} (F : L2.Fun K "_law_stand_in" "_law_stand_in" s__law_stand_in f fd) (hg : mg "_law_stand_in" = some (.ref f)) (C__law_put_behind : Cal P w K mg base "_law_put_behind" 3 (spM K 3 g__law_put_behind) 1) : Cal P w K mg base "_law_stand_in" 5 (spM K 5 g__law_stand_in) 2 :=
  def_ok (b := b__law_stand_in) F hg sc__law_stand_in (fun _ _ _ _ _ _ us hl => match us, hl with | [_, _, _, _, _], _ => rfl) fun cdv A outer s H E hr =>
    (ms_cons (ms_put hr (me_var (i := 0)) (me_var (i := 3)) (me_call C__law_put_behind hr (ma_cons (me_ix hr (me_var (i := 0)) (me_var (i := 3))) (ma_cons (me_var (i := 2)) (ma_cons (me_var (i := 1)) ma_nil)))))
    (ms_cons (ms_put hr (me_var (i := 0)) (me_var (i := 4)) (me_call C__law_put_behind hr (ma_cons (me_ix hr (me_var (i := 0)) (me_var (i := 4))) (ma_cons (me_var (i := 3)) (ma_cons (me_var (i := 1)) ma_nil)))))
    (ms_cons (ms_put hr (me_var (i := 0)) (me_var (i := 2)) (me_call C__law_put_behind hr (ma_cons (me_ix hr (me_var (i := 0)) (me_var (i := 2))) (ma_cons (me_var (i := 4)) (ma_cons (me_var (i := 1)) ma_nil)))))
    (ms_one (ms_put hr (me_var (i := 0)) (me_var (i := 1)) (MF.me (mf_lst (ma_cons (me_var (i := 3)) (ma_cons (me_var (i := 2)) (ma_cons (me_var (i := 4)) ma_nil))))))))))
theorem ok__law_begun {f : Addr} {fd : FuncData} (F : L2.Fun K "_law_begun" "_law_begun" s__law_begun f fd) (hg : mg "_law_begun" = some (.ref f)) (C__law_next : Cal P w K mg base "_law_next" 1 (spM K 1 g__law_next) 1) (C__law_mixed : Cal P w K mg base "_law_mixed" 2 (spM K 2 g__law_mixed) 1) (m_list : mg "list" = none) (m_max : mg "max" = none) (m_len : mg "len" = none) (m_tuple : mg "tuple" = none) : Cal P w K mg base "_law_begun" 2 (spM K 2 g__law_begun) 2 :=
  def_ok (b := b__law_begun) F hg sc__law_begun (fun _ _ _ _ _ _ us hl => match us, hl with | [_, _], _ => rfl) fun cdv A outer s H E hr =>
    (ms_cons (ms_asg (me_call C__law_next hr (ma_cons (me_var (i := 0)) ma_nil)) (mg_nm (n := 2) sc__law_begun.nd))
    (ms_cons (ms_asg (me_box mf_dnewK) (mg_nm (n := 3) sc__law_begun.nd))
    (ms_cons (ms_asg (MF.me (mf_listKeys m_list (me_var (i := 1)))) (mg_nm (n := 4) sc__law_begun.nd))
    (ms_cons (ms_asg (me_mod (me_var (i := 2)) (me_max2 m_max (ma_cons me_int (ma_cons (me_len m_len (ma_cons (me_var (i := 4)) ma_nil)) ma_nil)))) (mg_nm (n := 5) sc__law_begun.nd))
    (ms_cons (ms_for (x := B1__law_begun) (mi_seq (MF.me (mf_cat (MF.me (mf_slL (me_var (i := 4)) (mo_some (me_var (i := 5))) mo_none)) (MF.me (mf_slL (me_var (i := 4)) mo_none (mo_some (me_var (i := 5)))))))) (mg_nm (n := 6) sc__law_begun.nd) (ms_cons (ms_asg (me_mod (me_call C__law_mixed hr (ma_cons (me_var (i := 2)) (ma_cons (me_add (me_var (i := 6)) me_int) ma_nil))) (me_max2 m_max (ma_cons me_int (ma_cons (me_len m_len (ma_cons (me_ix hr (me_var (i := 1)) (me_var (i := 6))) ma_nil)) ma_nil)))) (mg_nm (n := 7) sc__law_begun.nd))
    (ms_one (ms_put hr (me_var (i := 3)) (me_var (i := 6)) (me_tuple m_tuple (ma_cons (MF.me (mf_cat (MF.me (mf_slL (me_ix hr (me_var (i := 1)) (me_var (i := 6))) (mo_some (me_var (i := 7))) mo_none)) (MF.me (mf_slL (me_ix hr (me_var (i := 1)) (me_var (i := 6))) mo_none (mo_some (me_var (i := 7))))))) ma_nil))))))
    (ms_one (ms_ret (me_var (i := 3)))))))))
theorem ok__law_changed {f : Addr} {fd : FuncData} (F : L2.Fun K "_law_changed" "_law_changed" s__law_changed f fd) (hg : mg "_law_changed" = some (.ref f)) (C__law_next : Cal P w K mg base "_law_next" 1 (spM K 1 g__law_next) 1) (C__law_twin : Cal P w K mg base "_law_twin" 1 (spF K 1 (toldF Ew.g__law_twin)) 1) (m_sorted : mg "sorted" = none) (m_len : mg "len" = none) : Cal P w K mg base "_law_changed" 2 (spM K 2 g__law_changed) 2 :=
  def_ok (b := b__law_changed) F hg sc__law_changed (fun _ _ _ _ _ _ us hl => match us, hl with | [_, _], _ => rfl) fun cdv A outer s H E hr =>
    (ms_cons (ms_asg (me_call C__law_next hr (ma_cons (me_var (i := 0)) ma_nil)) (mg_nm (n := 2) sc__law_changed.nd))
    (ms_cons (ms_setLc (n := 3) tF_val sc__law_changed.nd (own := [("_law_p", 4)]) (mi_seq (MF.me (mf_sortKeys m_sorted (me_var (i := 1))))) (show blkC ["_law_drawn", "_law_web", "_law_number", "_law_some", "_law_p", "_law_found", "_law_row", "_law_at"] (defScope s__law_changed) _ _ = true from by decide +kernel) (tgok_nm (by decide)) (fun _ _ _ _ _ => (pg_name (i := 4) sc__law_changed.nd rfl (Or.inl rfl))) (fun _ _ _ _ _ => (mts_one (c_gt (me_len m_len (ma_cons (me_ix hr (me_var (i := 1)) (me_var (i := 4))) ma_nil)) me_int).2)) (fun _ _ _ _ _ => (me_var (i := 4))) (sw_true rfl rfl rfl (by decide +kernel)))
    (ms_cons (ms_asg (me_box (mf_call C__law_twin hr (ma_cons (me_var (i := 1)) ma_nil))) (mg_nm (n := 5) sc__law_changed.nd))
    (ms_cons (ms_asg (me_ix hr (me_var (i := 3)) (me_mod (me_var (i := 2)) (me_len m_len (ma_cons (me_var (i := 3)) ma_nil)))) (mg_nm (n := 4) sc__law_changed.nd))
    (ms_cons (ms_asg (me_ix hr (me_var (i := 1)) (me_var (i := 4))) (mg_nm (n := 6) sc__law_changed.nd))
    (ms_cons (ms_asg (me_mod (me_div (me_var (i := 2)) me_int) (me_sub (me_len m_len (ma_cons (me_var (i := 6)) ma_nil)) me_int)) (mg_nm (n := 7) sc__law_changed.nd))
    (ms_cons (ms_put hr (me_var (i := 5)) (me_var (i := 4)) (me_catT (me_catT (me_slT (me_var (i := 6)) mo_none (mo_some (me_var (i := 7)))) (me_tupR (ma_cons (me_ix hr (me_var (i := 6)) (me_add (me_var (i := 7)) me_int)) (ma_cons (me_ix hr (me_var (i := 6)) (me_var (i := 7))) ma_nil)))) (me_slT (me_var (i := 6)) (mo_some (me_add (me_var (i := 7)) me_int)) mo_none)))
    (ms_one (ms_ret (me_var (i := 5)))))))))))
theorem ok__law_beside {f : Addr} {fd : FuncData} (F : L2.Fun K "_law_beside" "_law_beside" s__law_beside f fd) (hg : mg "_law_beside" = some (.ref f)) (C__law_twin : Cal P w K mg base "_law_twin" 1 (spF K 1 (toldF Ew.g__law_twin)) 1) (C__law_next : Cal P w K mg base "_law_next" 1 (spM K 1 g__law_next) 1) (m_range : mg "range" = none) : Cal P w K mg base "_law_beside" 2 (spM K 2 g__law_beside) 2 :=
  def_ok (b := b__law_beside) F hg sc__law_beside (fun _ _ _ _ _ _ us hl => match us, hl with | [_, _], _ => rfl) fun cdv A outer s H E hr =>
    (ms_cons (ms_asg (me_box (mf_call C__law_twin hr (ma_cons (me_var (i := 0)) ma_nil))) (mg_nm (n := 2) sc__law_beside.nd))
    (ms_cons (ms_asg (me_call C__law_next hr (ma_cons (me_var (i := 1)) ma_nil)) (mg_nm (n := 3) sc__law_beside.nd))
    (ms_cons (ms_for (x := B1__law_beside) (mi_range1 m_range (me_mod (me_var (i := 3)) me_int)) (mg_nm (n := 4) sc__law_beside.nd) (ms_cons (ms_asg (me_ix hr (MF.me (mf_lc sc__law_beside.nd (own := [("_law_q", 6)]) (mi_range1 m_range me_int) (show blkC ["_law_web", "_law_drawn", "_law_found", "_law_number", "_law_k", "_law_p", "_law_q"] (defScope s__law_beside) _ _ = true from by decide +kernel) (tgok_nm (by decide)) (fun _ _ _ _ _ => (pg_name (i := 6) sc__law_beside.nd rfl (Or.inl rfl))) (fun _ _ _ _ _ => (mts_one (c_notin hr (me_var (i := 6)) (me_var (i := 2))).2)) (fun _ _ _ _ _ => (me_var (i := 6))))) (me_add (me_mod (me_div (me_var (i := 3)) me_int) me_int) (me_var (i := 4)))) (mg_nm (n := 5) sc__law_beside.nd))
    (ms_one (ms_put hr (me_var (i := 2)) (me_var (i := 5)) (me_tupR ma_nil)))))
    (ms_one (ms_ret (me_var (i := 2)))))))
theorem ok_faces {f : Addr} {fd : FuncData} (F : L2.Fun K "faces" "faces" s_faces f fd) (hg : mg "faces" = some (.ref f)) (C_steps_of : Cal P w K mg base "steps_of" 1 (spF K 1 (toldF Ew.g_steps_of)) 1) (C_face_from : Cal P w K mg base "face_from" 3 (spF K 3 (toldF Ew.g_face_from)) 2) (m_tuple : mg "tuple" = none) : Cal P w K mg base "faces" 1 (spM K 1 g_faces) 3 :=
  def_ok (b := b_faces) F hg sc_faces (fun _ _ _ _ _ _ us hl => match us, hl with | [_], _ => rfl) fun cdv A outer s H E hr =>
    (ms_cons (ms_asg (me_box (mf_lst ma_nil)) (mg_nm (n := 1) sc_faces.nd))
    (ms_cons (ms_asg (me_box mf_dnewT) (mg_nm (n := 2) sc_faces.nd))
    (ms_cons (ms_for (x := B1_faces) (mi_seq (MF.me (mf_call C_steps_of hr (ma_cons (me_var (i := 0)) ma_nil)))) (mg_tup (mgs_cons (mg_nm (n := 3) sc_faces.nd) (mgs_cons (mg_nm (n := 4) sc_faces.nd) mgs_nil))) (ms_one (ms_if (c_notin hr (me_tup (ma_cons (me_var (i := 3)) (ma_cons (me_var (i := 4)) ma_nil))) (me_var (i := 2))).2 (ms_cons (ms_asg (MF.me (mf_call C_face_from hr (ma_cons (me_var (i := 0)) (ma_cons (me_var (i := 3)) (ma_cons (me_var (i := 4)) ma_nil))))) (mg_nm (n := 5) sc_faces.nd))
    (ms_cons (ms_for (x := B2_faces) (mi_seq (me_var (i := 5))) (mg_nm (n := 6) sc_faces.nd) (ms_one (ms_put hr (me_var (i := 2)) (me_var (i := 6)) me_bl)))
    (ms_one (ms_expr (me_append (me_var (i := 1)) (me_tuple m_tuple (ma_cons (MF.me (mf_lc sc_faces.nd (own := [("step", 6)]) (mi_seq (me_var (i := 5))) (show blkC ["web", "found", "seen", "u", "v", "face", "step"] (defScope s_faces) _ _ = true from by decide +kernel) (tgok_nm (by decide)) (fun _ _ _ _ _ => (pg_name (i := 6) sc_faces.nd rfl (Or.inl rfl))) (fun _ _ _ _ _ => mts_nil) (fun _ _ _ _ _ => (me_ix hr (me_var (i := 6)) me_int)))) ma_nil))))))) ms_nil)))
    (ms_one (ms_ret (me_var (i := 1)))))))
theorem ok_join_parts {f : Addr} {fd : FuncData} (F : L2.Fun K "join_parts" "join_parts" s_join_parts f fd) (hg : mg "join_parts" = some (.ref f)) (C_parts : Cal P w K mg base "parts" 1 (spF K 1 (toldF Ew.g_parts)) 2) (m_range : mg "range" = none) (m_len : mg "len" = none) : Cal P w K mg base "join_parts" 2 (spM K 2 g_join_parts) 3 :=
  def_ok (b := b_join_parts) F hg sc_join_parts (fun _ _ _ _ _ _ us hl => match us, hl with | [_, _], _ => rfl) fun cdv A outer s H E hr =>
    (ms_cons (ms_setLc (n := 2) tF_val sc_join_parts.nd (own := [("part", 3)]) (mi_seq (MF.me (mf_call C_parts hr (ma_cons (me_var (i := 0)) ma_nil)))) (show blkC ["web", "rows", "firsts", "part", "found", "k", "u", "v"] (defScope s_join_parts) _ _ = true from by decide +kernel) (tgok_nm (by decide)) (fun _ _ _ _ _ => (pg_name (i := 3) sc_join_parts.nd rfl (Or.inl rfl))) (fun _ _ _ _ _ => mts_nil) (fun _ _ _ _ _ => (me_ix hr (me_var (i := 3)) me_int)) (sw_true rfl rfl rfl (by decide +kernel)))
    (ms_cons (ms_asg (me_box (mf_lst ma_nil)) (mg_nm (n := 4) sc_join_parts.nd))
    (ms_cons (ms_for (x := B1_join_parts) (mi_range2 m_range me_int (me_len m_len (ma_cons (me_var (i := 2)) ma_nil))) (mg_nm (n := 5) sc_join_parts.nd) (ms_cons (ms_par sc_join_parts.nd (me_ix hr (me_var (i := 2)) (me_sub (me_var (i := 5)) me_int)) (me_ix hr (me_var (i := 2)) (me_var (i := 5))))
    (ms_cons (ms_put hr (me_var (i := 1)) (me_var (i := 6)) (MF.me (mf_cat (me_ix hr (me_var (i := 1)) (me_var (i := 6))) (MF.me (mf_lst (ma_cons (me_var (i := 7)) ma_nil))))))
    (ms_cons (ms_put hr (me_var (i := 1)) (me_var (i := 7)) (MF.me (mf_cat (me_ix hr (me_var (i := 1)) (me_var (i := 7))) (MF.me (mf_lst (ma_cons (me_var (i := 6)) ma_nil))))))
    (ms_one (ms_expr (me_append (me_var (i := 4)) (me_tup (ma_cons (me_var (i := 6)) (ma_cons (me_var (i := 7)) ma_nil))))))))))
    (ms_one (ms_ret (me_var (i := 4)))))))
theorem ok_cut_face {f : Addr} {fd : FuncData} (F : L2.Fun K "cut_face" "cut_face" s_cut_face f fd) (hg : mg "cut_face" = some (.ref f)) (C_face_from : Cal P w K mg base "face_from" 3 (spF K 3 (toldF Ew.g_face_from)) 2) (C_corner_to_cut : Cal P w K mg base "corner_to_cut" 2 (spM K 2 g_corner_to_cut) 1) (C_cut_corner : Cal P w K mg base "cut_corner" 3 (spM K 3 g_cut_corner) 2) (m_len : mg "len" = none) : Cal P w K mg base "cut_face" 3 (spM K 3 g_cut_face) 3 :=
  def_ok (b := b_cut_face) F hg sc_cut_face (fun _ _ _ _ _ _ us hl => match us, hl with | [_, _, _], _ => rfl) fun cdv A outer s H E hr =>
    (ms_cons (ms_asg (me_box (mf_lst ma_nil)) (mg_nm (n := 3) sc_cut_face.nd))
    (ms_cons (ms_asg (MF.me (mf_call C_face_from hr (ma_cons (me_var (i := 0)) (ma_cons (me_var (i := 1)) (ma_cons (me_var (i := 2)) ma_nil))))) (mg_nm (n := 4) sc_cut_face.nd))
    (ms_cons (ms_while (ta := W1_cut_face) (x := B1_cut_face) (c_gt (me_len m_len (ma_cons (me_var (i := 4)) ma_nil)) me_int).2 (ms_cons (ms_asg (me_call C_cut_corner hr (ma_cons (me_var (i := 0)) (ma_cons (me_var (i := 4)) (ma_cons (me_call C_corner_to_cut hr (ma_cons (me_var (i := 0)) (ma_cons (me_var (i := 4)) ma_nil))) ma_nil)))) (mg_nm (n := 5) sc_cut_face.nd))
    (ms_cons (ms_expr (me_append (me_var (i := 3)) (me_var (i := 5))))
    (ms_one (ms_asg (MF.me (mf_call C_face_from hr (ma_cons (me_var (i := 0)) (ma_cons (me_ix hr (me_var (i := 5)) me_int) (ma_cons (me_ix hr (me_var (i := 5)) me_int) ma_nil))))) (mg_nm (n := 4) sc_cut_face.nd))))))
    (ms_one (ms_ret (me_var (i := 3)))))))
theorem ok__law_full {f : Addr} {fd : FuncData} (F : L2.Fun K "_law_full" "_law_full" s__law_full f fd) (hg : mg "_law_full" = some (.ref f)) (C__law_next : Cal P w K mg base "_law_next" 1 (spM K 1 g__law_next) 1) (C__law_behind : Cal P w K mg base "_law_behind" 3 (spM K 3 g__law_behind) 1) (C__law_stand_in : Cal P w K mg base "_law_stand_in" 5 (spM K 5 g__law_stand_in) 2) (m_len : mg "len" = none) : Cal P w K mg base "_law_full" 2 (spM K 2 g__law_full) 3 :=
  def_ok (b := b__law_full) F hg sc__law_full (fun _ _ _ _ _ _ us hl => match us, hl with | [_, _], _ => rfl) fun cdv A outer s H E hr =>
    (ms_cons (ms_asg (MF.me (mf_slL (me_var (i := 1)) mo_none (mo_some me_int))) (mg_unl (mgs_cons (mg_nm (n := 2) sc__law_full.nd) (mgs_cons (mg_nm (n := 3) sc__law_full.nd) (mgs_cons (mg_nm (n := 4) sc__law_full.nd) mgs_nil)))))
    (ms_cons (ms_asg (me_box (mf_disp (mp_cons (me_var (i := 2)) (MF.me (mf_lst (ma_cons (me_var (i := 3)) (ma_cons (me_var (i := 4)) ma_nil)))) (mp_cons (me_var (i := 3)) (MF.me (mf_lst (ma_cons (me_var (i := 4)) (ma_cons (me_var (i := 2)) ma_nil)))) (mp_cons (me_var (i := 4)) (MF.me (mf_lst (ma_cons (me_var (i := 2)) (ma_cons (me_var (i := 3)) ma_nil)))) mp_nil))))) (mg_nm (n := 5) sc__law_full.nd))
    (ms_cons (ms_asg (MF.me (mf_lst (ma_cons (me_tup (ma_cons (me_var (i := 2)) (ma_cons (me_var (i := 3)) ma_nil))) (ma_cons (me_tup (ma_cons (me_var (i := 3)) (ma_cons (me_var (i := 2)) ma_nil))) ma_nil)))) (mg_nm (n := 6) sc__law_full.nd))
    (ms_cons (ms_for (x := B1__law_full) (mi_seq (MF.me (mf_slL (me_var (i := 1)) (mo_some me_int) mo_none))) (mg_nm (n := 7) sc__law_full.nd) (ms_cons (ms_asg (me_ix hr (me_var (i := 6)) (me_mod (me_call C__law_next hr (ma_cons (me_var (i := 0)) ma_nil)) (me_len m_len (ma_cons (me_var (i := 6)) ma_nil)))) (mg_tup (mgs_cons (mg_nm (n := 8) sc__law_full.nd) (mgs_cons (mg_nm (n := 9) sc__law_full.nd) mgs_nil))))
    (ms_cons (ms_asg (me_ix hr (me_call C__law_behind hr (ma_cons (me_var (i := 5)) (ma_cons (me_var (i := 8)) (ma_cons (me_var (i := 9)) ma_nil)))) me_int) (mg_nm (n := 10) sc__law_full.nd))
    (ms_cons (ms_expr (me_call C__law_stand_in hr (ma_cons (me_var (i := 5)) (ma_cons (me_var (i := 7)) (ma_cons (me_var (i := 8)) (ma_cons (me_var (i := 9)) (ma_cons (me_var (i := 10)) ma_nil)))))))
    (ms_one (ms_asg (MF.me (mf_cat (me_var (i := 6)) (MF.me (mf_lst (ma_cons (me_tup (ma_cons (me_var (i := 8)) (ma_cons (me_var (i := 7)) ma_nil))) (ma_cons (me_tup (ma_cons (me_var (i := 9)) (ma_cons (me_var (i := 7)) ma_nil))) (ma_cons (me_tup (ma_cons (me_var (i := 10)) (ma_cons (me_var (i := 7)) ma_nil))) (ma_cons (me_tup (ma_cons (me_var (i := 8)) (ma_cons (me_var (i := 9)) ma_nil))) ma_nil)))))))) (mg_nm (n := 6) sc__law_full.nd)))))))
    (ms_one (ms_ret (me_var (i := 5))))))))
theorem ok__law_crossed {f : Addr} {fd : FuncData} (F : L2.Fun K "_law_crossed" "_law_crossed" s__law_crossed f fd) (hg : mg "_law_crossed" = some (.ref f)) (C__law_next : Cal P w K mg base "_law_next" 1 (spM K 1 g__law_next) 1) (C__law_names : Cal P w K mg base "_law_names" 2 (spM K 2 g__law_names) 2) (C__law_mixed : Cal P w K mg base "_law_mixed" 2 (spM K 2 g__law_mixed) 1) (m_len : mg "len" = none) (m_tuple : mg "tuple" = none) : Cal P w K mg base "_law_crossed" 1 (spM K 1 g__law_crossed) 3 :=
  def_ok (b := b__law_crossed) F hg sc__law_crossed (fun _ _ _ _ _ _ us hl => match us, hl with | [_], _ => rfl) fun cdv A outer s H E hr =>
    (ms_cons (ms_asg (me_call C__law_names hr (ma_cons (me_var (i := 0)) (ma_cons (me_add me_int (me_mod (me_call C__law_next hr (ma_cons (me_var (i := 0)) ma_nil)) me_int)) ma_nil))) (mg_nm (n := 1) sc__law_crossed.nd))
    (ms_cons (ms_asg (me_call C__law_next hr (ma_cons (me_var (i := 0)) ma_nil)) (mg_nm (n := 2) sc__law_crossed.nd))
    (ms_cons (ms_asg (me_box mf_dnewK) (mg_nm (n := 3) sc__law_crossed.nd))
    (ms_cons (ms_for (x := B1__law_crossed) (mi_seq (me_var (i := 1))) (mg_nm (n := 4) sc__law_crossed.nd) (ms_cons (ms_setLc (n := 5) tF_val sc__law_crossed.nd (own := [("_law_q", 6)]) (mi_seq (me_var (i := 1))) (show blkC ["_law_drawn", "_law_names_here", "_law_number", "_law_web", "_law_p", "_law_others", "_law_q", "_law_at"] (defScope s__law_crossed) _ _ = true from by decide +kernel) (tgok_nm (by decide)) (fun _ _ _ _ _ => (pg_name (i := 6) sc__law_crossed.nd rfl (Or.inl rfl))) (fun _ _ _ _ _ => (mts_one (c_neA hr (me_var (i := 6)) (me_var (i := 4))).2)) (fun _ _ _ _ _ => (me_var (i := 6))) (sw_true rfl rfl rfl (by decide +kernel)))
    (ms_cons (ms_asg (me_mod (me_call C__law_mixed hr (ma_cons (me_var (i := 2)) (ma_cons (me_var (i := 4)) ma_nil))) (me_len m_len (ma_cons (me_var (i := 5)) ma_nil))) (mg_nm (n := 7) sc__law_crossed.nd))
    (ms_one (ms_put hr (me_var (i := 3)) (me_var (i := 4)) (me_tuple m_tuple (ma_cons (MF.me (mf_cat (MF.me (mf_slL (me_var (i := 5)) (mo_some (me_var (i := 7))) mo_none)) (MF.me (mf_slL (me_var (i := 5)) mo_none (mo_some (me_var (i := 7))))))) ma_nil)))))))
    (ms_one (ms_ret (me_var (i := 3))))))))
theorem ok_is_flat_part {f : Addr} {fd : FuncData} (F : L2.Fun K "is_flat_part" "is_flat_part" s_is_flat_part f fd) (hg : mg "is_flat_part" = some (.ref f)) (C_within : Cal P w K mg base "within" 2 (spF K 2 (toldF Ew.g_within)) 1) (C_ties : Cal P w K mg base "ties" 1 (spF K 1 (toldF Ew.g_ties)) 1) (C_faces : Cal P w K mg base "faces" 1 (spF K 1 (toldF Ew.g_faces)) 3) (m_len : mg "len" = none) : Cal P w K mg base "is_flat_part" 2 (spM K 2 g_is_flat_part) 4 :=
  def_ok (b := b_is_flat_part) F hg sc_is_flat_part (fun _ _ _ _ _ _ us hl => match us, hl with | [_, _], _ => rfl) fun cdv A outer s H E hr =>
    (ms_cons (ms_if (c_eqA hr (me_len m_len (ma_cons (me_var (i := 1)) ma_nil)) me_int).2 (ms_one (ms_ret me_bl)) ms_nil)
    (ms_cons (ms_asg (MF.me (mf_call C_within hr (ma_cons (me_var (i := 0)) (ma_cons (me_var (i := 1)) ma_nil)))) (mg_nm (n := 2) sc_is_flat_part.nd))
    (ms_one (ms_ret (c_eqA hr (me_add (me_sub (me_len m_len (ma_cons (me_var (i := 1)) ma_nil)) (me_len m_len (ma_cons (MF.me (mf_call C_ties hr (ma_cons (me_var (i := 2)) ma_nil))) ma_nil))) (me_len m_len (ma_cons (MF.me (mf_call C_faces hr (ma_cons (me_var (i := 2)) ma_nil))) ma_nil))) me_int).1))))
theorem ok__law_some_full {f : Addr} {fd : FuncData} (F : L2.Fun K "_law_some_full" "_law_some_full" s__law_some_full f fd) (hg : mg "_law_some_full" = some (.ref f)) (C__law_next : Cal P w K mg base "_law_next" 1 (spM K 1 g__law_next) 1) (C__law_names : Cal P w K mg base "_law_names" 2 (spM K 2 g__law_names) 2) (C__law_full : Cal P w K mg base "_law_full" 2 (spF K 2 (toldF Ew.g__law_full)) 3) (C__law_begun : Cal P w K mg base "_law_begun" 2 (spF K 2 (toldF Ew.g__law_begun)) 2) : Cal P w K mg base "_law_some_full" 2 (spM K 2 g__law_some_full) 4 :=
  def_ok (b := b__law_some_full) F hg sc__law_some_full (fun _ _ _ _ _ _ us hl => match us, hl with | [_, _], _ => rfl) fun cdv A outer s H E hr =>
    (ms_cons (ms_asg (me_call C__law_names hr (ma_cons (me_var (i := 0)) (ma_cons (me_add me_int (me_mod (me_call C__law_next hr (ma_cons (me_var (i := 0)) ma_nil)) (me_sub (me_var (i := 1)) me_int))) ma_nil))) (mg_nm (n := 2) sc__law_some_full.nd))
    (ms_one (ms_ret (MF.me (mf_call C__law_begun hr (ma_cons (me_var (i := 0)) (ma_cons (MF.me (mf_call C__law_full hr (ma_cons (me_var (i := 0)) (ma_cons (me_var (i := 2)) ma_nil)))) ma_nil)))))))
theorem ok__law_crooked {f : Addr} {fd : FuncData} (F : L2.Fun K "_law_crooked" "_law_crooked" s__law_crooked f fd) (hg : mg "_law_crooked" = some (.ref f)) (C__law_next : Cal P w K mg base "_law_next" 1 (spM K 1 g__law_next) 1) (C__law_crossed : Cal P w K mg base "_law_crossed" 1 (spF K 1 (toldF Ew.g__law_crossed)) 3) (C__law_beside : Cal P w K mg base "_law_beside" 2 (spF K 2 (toldF Ew.g__law_beside)) 2) (C__law_names : Cal P w K mg base "_law_names" 2 (spM K 2 g__law_names) 2) (C__law_full : Cal P w K mg base "_law_full" 2 (spF K 2 (toldF Ew.g__law_full)) 3) (C__law_begun : Cal P w K mg base "_law_begun" 2 (spF K 2 (toldF Ew.g__law_begun)) 2) (C__law_changed : Cal P w K mg base "_law_changed" 2 (spF K 2 (toldF Ew.g__law_changed)) 2) : Cal P w K mg base "_law_crooked" 1 (spM K 1 g__law_crooked) 4 :=
  def_ok (b := b__law_crooked) F hg sc__law_crooked (fun _ _ _ _ _ _ us hl => match us, hl with | [_], _ => rfl) fun cdv A outer s H E hr =>
    (ms_cons (ms_if (c_eqA hr (me_mod (me_call C__law_next hr (ma_cons (me_var (i := 0)) ma_nil)) me_int) me_int).2 (ms_one (ms_ret (MF.me (mf_call C__law_beside hr (ma_cons (MF.me (mf_call C__law_crossed hr (ma_cons (me_var (i := 0)) ma_nil))) (ma_cons (me_var (i := 0)) ma_nil)))))) ms_nil)
    (ms_cons (ms_asg (me_call C__law_names hr (ma_cons (me_var (i := 0)) (ma_cons (me_add me_int (me_mod (me_call C__law_next hr (ma_cons (me_var (i := 0)) ma_nil)) me_int)) ma_nil))) (mg_nm (n := 1) sc__law_crooked.nd))
    (ms_one (ms_ret (MF.me (mf_call C__law_beside hr (ma_cons (MF.me (mf_call C__law_changed hr (ma_cons (me_var (i := 0)) (ma_cons (MF.me (mf_call C__law_begun hr (ma_cons (me_var (i := 0)) (ma_cons (MF.me (mf_call C__law_full hr (ma_cons (me_var (i := 0)) (ma_cons (me_var (i := 1)) ma_nil)))) ma_nil)))) ma_nil)))) (ma_cons (me_var (i := 0)) ma_nil))))))))
theorem ok_crooked {f : Addr} {fd : FuncData} (F : L2.Fun K "crooked" "crooked" s_crooked f fd) (hg : mg "crooked" = some (.ref f)) (C_parts : Cal P w K mg base "parts" 1 (spF K 1 (toldF Ew.g_parts)) 2) (C_is_flat_part : Cal P w K mg base "is_flat_part" 2 (spM K 2 g_is_flat_part) 4) : Cal P w K mg base "crooked" 1 (spM K 1 g_crooked) 5 :=
  def_ok (b := b_crooked) F hg sc_crooked (fun _ _ _ _ _ _ us hl => match us, hl with | [_], _ => rfl) fun cdv A outer s H E hr =>
    (ms_cons (ms_for (x := B1_crooked) (mi_seq (MF.me (mf_call C_parts hr (ma_cons (me_var (i := 0)) ma_nil)))) (mg_nm (n := 1) sc_crooked.nd) (ms_one (ms_if (mt_not (mt_val (me_call C_is_flat_part hr (ma_cons (me_var (i := 0)) (ma_cons (me_var (i := 1)) ma_nil))))) (ms_one (ms_ret (me_var (i := 1)))) ms_nil)))
    (ms_one (ms_ret me_non)))
theorem ok_is_flat {f : Addr} {fd : FuncData} (F : L2.Fun K "is_flat" "is_flat" s_is_flat f fd) (hg : mg "is_flat" = some (.ref f)) (C_crooked : Cal P w K mg base "crooked" 1 (spM K 1 g_crooked) 5) : Cal P w K mg base "is_flat" 1 (spM K 1 g_is_flat) 6 :=
  def_ok (b := b_is_flat) F hg sc_is_flat (fun _ _ _ _ _ _ us hl => match us, hl with | [_], _ => rfl) fun cdv A outer s H E hr =>
    (ms_one (ms_ret (c_isN (me_call C_crooked hr (ma_cons (me_var (i := 0)) ma_nil)) me_non).1))
theorem ok_filled {f : Addr} {fd : FuncData} (F : L2.Fun K "filled" "filled" s_filled f fd) (hg : mg "filled" = some (.ref f)) (C_is_flat : Cal P w K mg base "is_flat" 1 (spM K 1 g_is_flat) 6) (C_open_rows : Cal P w K mg base "open_rows" 1 (spM K 1 g_open_rows) 1) (C_join_parts : Cal P w K mg base "join_parts" 2 (spM K 2 g_join_parts) 3) (C_closed_rows : Cal P w K mg base "closed_rows" 1 (spF K 1 (toldF Ew.g_closed_rows)) 1) (C_steps_of : Cal P w K mg base "steps_of" 1 (spF K 1 (toldF Ew.g_steps_of)) 1) (C_cut_face : Cal P w K mg base "cut_face" 3 (spF K 3 (toldF Ew.g_cut_face)) 3) (C_tie_name : Cal P w K mg base "tie_name" 2 (spM K 2 g_tie_name) 1) (m_len : mg "len" = none) (m_sorted : mg "sorted" = none) (g_FEWEST : ∃ t, mg "FEWEST" = some (.int 3 t)) (XC_NotFlat : XcOk K mg "NotFlat" (cA 0)) (XC_TooSmall : XcOk K mg "TooSmall" (cA 1)) : CalX (fun i => .ref (cA i)) P w K mg base "filled" 1 g_filled 7 :=
  def_okX (b := b_filled) F hg sc_filled (fun _ _ _ _ _ _ us hl => match us, hl with | [_], _ => rfl) fun cdv A outer s H E hr tk =>
    (mxs_cons (mx_if (mt_not (mt_val (me_call C_is_flat hr (ma_cons (me_var (i := 0)) ma_nil)))) (mxs_one (mx_raise (k := 0) tk XC_NotFlat rfl)) (mxs_lift ms_nil))
    (mxs_cons (mx_if (c_lt (me_len m_len (ma_cons (me_var (i := 0)) ma_nil)) (me_globI g_FEWEST)).2 (mxs_one (mx_raise (k := 1) tk XC_TooSmall rfl)) (mxs_lift ms_nil))
    (mxs_cons (mx_lift (ms_asg (me_call C_open_rows hr (ma_cons (me_var (i := 0)) ma_nil)) (mg_nm (n := 1) sc_filled.nd)))
    (mxs_cons (mx_lift (ms_asg (me_call C_join_parts hr (ma_cons (me_var (i := 0)) (ma_cons (me_var (i := 1)) ma_nil))) (mg_nm (n := 2) sc_filled.nd)))
    (mxs_cons (mx_lift (ms_for (x := B1_filled) (hp := passes_of rfl) (mi_seq (MF.me (mf_call C_steps_of hr (ma_cons (MF.me (mf_call C_closed_rows hr (ma_cons (me_var (i := 1)) ma_nil))) ma_nil)))) (mg_tup (mgs_cons (mg_nm (n := 3) sc_filled.nd) (mgs_cons (mg_nm (n := 4) sc_filled.nd) mgs_nil))) (ms_one (ms_expr (me_extend (me_var (i := 2)) (MF.me (mf_call C_cut_face hr (ma_cons (me_var (i := 1)) (ma_cons (me_var (i := 3)) (ma_cons (me_var (i := 4)) ma_nil))))))))))
    (mxs_one (mx_lift (ms_ret (me_tup (ma_cons (MF.me (mf_call C_closed_rows hr (ma_cons (me_var (i := 1)) ma_nil))) (ma_cons (MF.me (mf_sorted m_sorted (ma_cons (MF.me (mf_lc sc_filled.nd (own := [("u", 3), ("v", 4)]) (mi_seq (me_var (i := 2))) (show blkC ["web", "rows", "pairs", "u", "v"] (defScope s_filled) _ _ = true from by decide +kernel) (tgok_2 (by decide) (by decide)) (fun _ _ _ _ _ => (pg_tup rfl (pgs_cons (pg_name (i := 3) sc_filled.nd rfl (Or.inl rfl)) (pgs_cons (pg_name (i := 4) sc_filled.nd rfl (Or.inl rfl)) pgs_nil)))) (fun _ _ _ _ _ => mts_nil) (fun _ _ _ _ _ => (me_call C_tie_name hr (ma_cons (me_var (i := 3)) (ma_cons (me_var (i := 4)) ma_nil)))))) ma_nil))) ma_nil)))))))))))
theorem ok__law_refused {f : Addr} {fd : FuncData} (F : L2.Fun K "_law_refused" "_law_refused" s__law_refused f fd) (hg : mg "_law_refused" = some (.ref f)) (C_filled : CalX (fun i => .ref (cA i)) P w K mg base "filled" 1 (toldX Ew.g_filled) 7) (m_isinstance : mg "isinstance" = none) (m_ValueError : mg "ValueError" = none) (XC_WallsError : XcOk K mg "WallsError" (cA 2)) (XC_NotFilled : XcOk K mg "NotFilled" (cA 3)) (XC_TooSmall : XcOk K mg "TooSmall" (cA 1)) (XC_NotFlat : XcOk K mg "NotFlat" (cA 0)) (XI_ValueError : XisOk (fun i => .ref (cA i)) K 4 (.type "ValueError") (fun _ => true)) (XI_NotFilled : XisOk (fun i => .ref (cA i)) K 4 (.ref (cA 3)) (fun c => subC c 3)) (XI_TooSmall : XisOk (fun i => .ref (cA i)) K 4 (.ref (cA 1)) (fun c => subC c 1)) (XI_NotFlat : XisOk (fun i => .ref (cA i)) K 4 (.ref (cA 0)) (fun c => subC c 0)) (XM : ∀ c d, c < 4 → d < 4 → PySem.W.exmOne K (.ref (cA c)) (.ref (cA d)) = some (subC c d)) : Cal P w K mg base "_law_refused" 1 (spM K 1 g__law_refused) 8 :=
  def_ok (b := b__law_refused) F hg sc__law_refused (fun _ _ _ _ _ _ us hl => match us, hl with | [_], _ => rfl) fun cdv A outer s H E hr =>
    (ms_cons (ms_asg me_non (mg_nm (n := 1) sc__law_refused.nd))
    (ms_cons (ms_tryAs (cv := fun i => .ref (cA i)) (n := 4) (i := 2) (j := 1) (d := 2) (sub := subC) XM (by decide) ⟨rfl, by decide +kernel, Or.inl XC_WallsError.g⟩ sc__law_refused.nd (fun W pn xe tk po => (mxs_one (mx_expr C_filled tk hr (ma_cons (me_var (i := 0)) ma_nil)))) (isa_cons (ise_own m_isinstance XC_NotFlat.g XI_NotFlat) (isa_cons (ise_own m_isinstance XC_TooSmall.g XI_TooSmall) (isa_cons (ise_own m_isinstance XC_NotFilled.g XI_NotFilled) (isa_cons (ise_ty m_isinstance m_ValueError rfl XI_ValueError) isa_nil)))) (by decide))
    (ms_one (ms_ret (me_var (i := 1))))))
theorem ok_law {f : Addr} {fd : FuncData} (F : L2.Fun K "law" "law" s_law f fd) (C__law_draws : Cal P w K mg base "_law_draws" 1 (spM K 1 g__law_draws) 2) (C__law_names : Cal P w K mg base "_law_names" 2 (spM K 2 g__law_names) 2) (C__law_twin : Cal P w K mg base "_law_twin" 1 (spF K 1 (toldF Ew.g__law_twin)) 1) (C__law_refused : Cal P w K mg base "_law_refused" 1 (spM K 1 (toldV Ew.g__law_refused)) 8) (C__law_crooked : Cal P w K mg base "_law_crooked" 1 (spM K 1 (toldV Ew.g__law_crooked)) 4) (C__law_some_full : Cal P w K mg base "_law_some_full" 2 (spM K 2 (toldV Ew.g__law_some_full)) 4) (m_range : mg "range" = none) : FnOk P w K mg base CX0 9 f fd ["_law_script"] (spM K 1 g_law) :=
  def_fn (b := b_law) F sc_law fun cdv A outer s H E hr =>
    (ms_cons (ms_asg (me_call C__law_draws hr (ma_cons (me_var (i := 0)) ma_nil)) (mg_nm (n := 1) sc_law.nd))
    (ms_cons (ms_asg (me_call C__law_names hr (ma_cons (me_var (i := 1)) (ma_cons me_int ma_nil))) (mg_unl (mgs_cons (mg_nm (n := 2) sc_law.nd) (mgs_cons (mg_nm (n := 3) sc_law.nd) (mgs_cons (mg_nm (n := 4) sc_law.nd) mgs_nil)))))
    (ms_cons (ms_for (x := B1_law) (mi_seq (MF.me (mf_lst (ma_cons (MF.me mf_dnewK) (ma_cons (MF.me (mf_disp (mp_cons (me_var (i := 2)) (me_tupR ma_nil) mp_nil))) (ma_cons (MF.me (mf_disp (mp_cons (me_var (i := 2)) (me_tupR ma_nil) (mp_cons (me_var (i := 3)) (me_tupR ma_nil) mp_nil)))) (ma_cons (MF.me (mf_disp (mp_cons (me_var (i := 2)) (me_tupR (ma_cons (me_var (i := 3)) ma_nil)) (mp_cons (me_var (i := 3)) (me_tupR (ma_cons (me_var (i := 2)) ma_nil)) mp_nil)))) ma_nil))))))) (mg_nm (n := 5) sc_law.nd) (ms_cons (ms_asg (MF.me (mf_call C__law_twin hr (ma_cons (me_var (i := 5)) ma_nil))) (mg_nm (n := 6) sc_law.nd))
    (ms_one (ms_if (PW.pt (mw_or (c_neA hr (me_call C__law_refused hr (ma_cons (me_var (i := 5)) ma_nil)) (MF.me (mf_lst (ma_cons me_bl (ma_cons me_bl (ma_cons me_bl (ma_cons me_bl ma_nil))))))).2 (mw_or1 (c_neA hr (me_var (i := 5)) (me_var (i := 6))).2))) (ms_one (ms_ret me_bl)) ms_nil))))
    (ms_cons (ms_for (x := B2_law) (mi_seq (MF.me (mf_lst (ma_cons (MF.me (mf_disp (mp_cons (me_var (i := 2)) (me_tupR ma_nil) (mp_cons (me_var (i := 3)) (me_tupR ma_nil) (mp_cons (me_var (i := 4)) (me_tupR ma_nil) mp_nil))))) (ma_cons (MF.me (mf_disp (mp_cons (me_var (i := 2)) (me_tupR (ma_cons (me_var (i := 3)) ma_nil)) (mp_cons (me_var (i := 3)) (me_tupR (ma_cons (me_var (i := 2)) ma_nil)) (mp_cons (me_var (i := 4)) (me_tupR ma_nil) mp_nil))))) (ma_cons (MF.me (mf_disp (mp_cons (me_var (i := 2)) (me_tupR (ma_cons (me_var (i := 3)) (ma_cons (me_var (i := 4)) ma_nil))) (mp_cons (me_var (i := 3)) (me_tupR (ma_cons (me_var (i := 4)) (ma_cons (me_var (i := 2)) ma_nil))) (mp_cons (me_var (i := 4)) (me_tupR (ma_cons (me_var (i := 2)) (ma_cons (me_var (i := 3)) ma_nil))) mp_nil))))) ma_nil)))))) (mg_nm (n := 5) sc_law.nd) (ms_one (ms_if (c_notN (me_call C__law_refused hr (ma_cons (me_var (i := 5)) ma_nil)) me_non).2 (ms_one (ms_ret me_bl)) ms_nil)))
    (ms_cons (ms_for (x := B3_law) (mi_range1 m_range me_int) (mg_nm (n := 7) sc_law.nd) (ms_cons (ms_asg (me_call C__law_crooked hr (ma_cons (me_var (i := 1)) ma_nil)) (mg_nm (n := 5) sc_law.nd))
    (ms_cons (ms_asg (MF.me (mf_call C__law_twin hr (ma_cons (me_var (i := 5)) ma_nil))) (mg_nm (n := 6) sc_law.nd))
    (ms_one (ms_if (PW.pt (mw_or (c_neA hr (me_call C__law_refused hr (ma_cons (me_var (i := 5)) ma_nil)) (MF.me (mf_lst (ma_cons me_bl (ma_cons me_bl (ma_cons me_bl (ma_cons me_bl ma_nil))))))).2 (mw_or1 (c_neA hr (me_var (i := 5)) (me_var (i := 6))).2))) (ms_one (ms_ret me_bl)) ms_nil)))))
    (ms_one (ms_ret (c_isN (me_call C__law_refused hr (ma_cons (me_call C__law_some_full hr (ma_cons (me_var (i := 1)) (ma_cons me_int ma_nil))) ma_nil)) me_non).1)))))))
end
theorem all_mk {l : PySem.W.OpenLaw} {w : World} {K : PySem.W.Frag} {h : Heap} {mg : Str → Option Value} {fa : Addr} (X : K.In h) (G : h.Ns mainGlobals mg) (hfa : mg "law" = some (.ref fa)) {f_behind : Addr} {fd_behind : FuncData} {f_steps_of : Addr} {fd_steps_of : FuncData} {f_tie_name : Addr} {fd_tie_name : FuncData} {f_ties : Addr} {fd_ties : FuncData} {f_within : Addr} {fd_within : FuncData} {f_part_of : Addr} {fd_part_of : FuncData} {f_open_rows : Addr} {fd_open_rows : FuncData} {f_closed_rows : Addr} {fd_closed_rows : FuncData} {f_put_behind : Addr} {fd_put_behind : FuncData} {f_corner_to_cut : Addr} {fd_corner_to_cut : FuncData} {f__law_mixed : Addr} {fd__law_mixed : FuncData} {f__law_next : Addr} {fd__law_next : FuncData} {f__law_behind : Addr} {fd__law_behind : FuncData} {f__law_put_behind : Addr} {fd__law_put_behind : FuncData} {f__law_twin : Addr} {fd__law_twin : FuncData} {f_face_from : Addr} {fd_face_from : FuncData} {f_parts : Addr} {fd_parts : FuncData} {f_cut_corner : Addr} {fd_cut_corner : FuncData} {f__law_draws : Addr} {fd__law_draws : FuncData} {f__law_names : Addr} {fd__law_names : FuncData} {f__law_stand_in : Addr} {fd__law_stand_in : FuncData} {f__law_begun : Addr} {fd__law_begun : FuncData} {f__law_changed : Addr} {fd__law_changed : FuncData} {f__law_beside : Addr} {fd__law_beside : FuncData} {f_faces : Addr} {fd_faces : FuncData} {f_join_parts : Addr} {fd_join_parts : FuncData} {f_cut_face : Addr} {fd_cut_face : FuncData} {f__law_full : Addr} {fd__law_full : FuncData} {f__law_crossed : Addr} {fd__law_crossed : FuncData} {f_is_flat_part : Addr} {fd_is_flat_part : FuncData} {f__law_some_full : Addr} {fd__law_some_full : FuncData} {f__law_crooked : Addr} {fd__law_crooked : FuncData} {f_crooked : Addr} {fd_crooked : FuncData} {f_is_flat : Addr} {fd_is_flat : FuncData} {f_filled : Addr} {fd_filled : FuncData} {f__law_refused : Addr} {fd__law_refused : FuncData} {f_law : Addr} {fd_law : FuncData} {t_FEWEST : Tok} {A_NotFlat : Addr} {A_TooSmall : Addr} {A_WallsError : Addr} {A_NotFilled : Addr}
    (d_behind : DefAt K "behind" s_behind f_behind fd_behind) (d_steps_of : DefAt K "steps_of" s_steps_of f_steps_of fd_steps_of) (d_tie_name : DefAt K "tie_name" s_tie_name f_tie_name fd_tie_name) (d_ties : DefAt K "ties" s_ties f_ties fd_ties) (d_within : DefAt K "within" s_within f_within fd_within) (d_part_of : DefAt K "part_of" s_part_of f_part_of fd_part_of) (d_open_rows : DefAt K "open_rows" s_open_rows f_open_rows fd_open_rows) (d_closed_rows : DefAt K "closed_rows" s_closed_rows f_closed_rows fd_closed_rows) (d_put_behind : DefAt K "put_behind" s_put_behind f_put_behind fd_put_behind) (d_corner_to_cut : DefAt K "corner_to_cut" s_corner_to_cut f_corner_to_cut fd_corner_to_cut) (d__law_mixed : DefAt K "_law_mixed" s__law_mixed f__law_mixed fd__law_mixed) (d__law_next : DefAt K "_law_next" s__law_next f__law_next fd__law_next) (d__law_behind : DefAt K "_law_behind" s__law_behind f__law_behind fd__law_behind) (d__law_put_behind : DefAt K "_law_put_behind" s__law_put_behind f__law_put_behind fd__law_put_behind) (d__law_twin : DefAt K "_law_twin" s__law_twin f__law_twin fd__law_twin) (d_face_from : DefAt K "face_from" s_face_from f_face_from fd_face_from) (d_parts : DefAt K "parts" s_parts f_parts fd_parts) (d_cut_corner : DefAt K "cut_corner" s_cut_corner f_cut_corner fd_cut_corner) (d__law_draws : DefAt K "_law_draws" s__law_draws f__law_draws fd__law_draws) (d__law_names : DefAt K "_law_names" s__law_names f__law_names fd__law_names) (d__law_stand_in : DefAt K "_law_stand_in" s__law_stand_in f__law_stand_in fd__law_stand_in) (d__law_begun : DefAt K "_law_begun" s__law_begun f__law_begun fd__law_begun) (d__law_changed : DefAt K "_law_changed" s__law_changed f__law_changed fd__law_changed) (d__law_beside : DefAt K "_law_beside" s__law_beside f__law_beside fd__law_beside) (d_faces : DefAt K "faces" s_faces f_faces fd_faces) (d_join_parts : DefAt K "join_parts" s_join_parts f_join_parts fd_join_parts) (d_cut_face : DefAt K "cut_face" s_cut_face f_cut_face fd_cut_face) (d__law_full : DefAt K "_law_full" s__law_full f__law_full fd__law_full) (d__law_crossed : DefAt K "_law_crossed" s__law_crossed f__law_crossed fd__law_crossed) (d_is_flat_part : DefAt K "is_flat_part" s_is_flat_part f_is_flat_part fd_is_flat_part) (d__law_some_full : DefAt K "_law_some_full" s__law_some_full f__law_some_full fd__law_some_full) (d__law_crooked : DefAt K "_law_crooked" s__law_crooked f__law_crooked fd__law_crooked) (d_crooked : DefAt K "crooked" s_crooked f_crooked fd_crooked) (d_is_flat : DefAt K "is_flat" s_is_flat f_is_flat fd_is_flat) (d_filled : DefAt K "filled" s_filled f_filled fd_filled) (d__law_refused : DefAt K "_law_refused" s__law_refused f__law_refused fd__law_refused) (d_law : DefAt K "law" s_law f_law fd_law)
    (z_len : PySem.W.nsIn K mainGlobals "len" = some none) (z_sorted : PySem.W.nsIn K mainGlobals "sorted" = some none) (z_max : PySem.W.nsIn K mainGlobals "max" = some none) (z_min : PySem.W.nsIn K mainGlobals "min" = some none) (z_tuple : PySem.W.nsIn K mainGlobals "tuple" = some none) (z_list : PySem.W.nsIn K mainGlobals "list" = some none) (z_range : PySem.W.nsIn K mainGlobals "range" = some none) (z_abs : PySem.W.nsIn K mainGlobals "abs" = some none) (z_isinstance : PySem.W.nsIn K mainGlobals "isinstance" = some none) (z_ValueError : PySem.W.nsIn K mainGlobals "ValueError" = some none) (y_FEWEST : PySem.W.nsIn K mainGlobals "FEWEST" = some (some (.int 3 t_FEWEST))) (n_NotFlat : PySem.W.nsIn K mainGlobals "NotFlat" = some (some (.ref A_NotFlat))) (xq_NotFlat : PySem.W.excIn K A_NotFlat [.type "ValueError", .type "Exception", .type "BaseException", .type "object"] "ValueError.__new__" = true) (xk_NotFlat : PySem.W.keepIn K (.ref A_NotFlat) = true) (xb_NotFlat : PySem.W.subIn K (.ref A_NotFlat) (.type "BaseException") = some true) (xt_NotFlat : PySem.W.typeIn K (.ref A_NotFlat) = some (.type "type")) (xi_NotFlat : PySem.W.isClsIn K A_NotFlat = true) (n_TooSmall : PySem.W.nsIn K mainGlobals "TooSmall" = some (some (.ref A_TooSmall))) (xq_TooSmall : PySem.W.excIn K A_TooSmall [.type "ValueError", .type "Exception", .type "BaseException", .type "object"] "ValueError.__new__" = true) (xk_TooSmall : PySem.W.keepIn K (.ref A_TooSmall) = true) (xb_TooSmall : PySem.W.subIn K (.ref A_TooSmall) (.type "BaseException") = some true) (xt_TooSmall : PySem.W.typeIn K (.ref A_TooSmall) = some (.type "type")) (xi_TooSmall : PySem.W.isClsIn K A_TooSmall = true) (n_WallsError : PySem.W.nsIn K mainGlobals "WallsError" = some (some (.ref A_WallsError))) (xq_WallsError : PySem.W.excIn K A_WallsError [.type "ValueError", .type "Exception", .type "BaseException", .type "object"] "ValueError.__new__" = true) (xk_WallsError : PySem.W.keepIn K (.ref A_WallsError) = true) (xb_WallsError : PySem.W.subIn K (.ref A_WallsError) (.type "BaseException") = some true) (xt_WallsError : PySem.W.typeIn K (.ref A_WallsError) = some (.type "type")) (xi_WallsError : PySem.W.isClsIn K A_WallsError = true) (n_NotFilled : PySem.W.nsIn K mainGlobals "NotFilled" = some (some (.ref A_NotFilled))) (xq_NotFilled : PySem.W.excIn K A_NotFilled [.type "ValueError", .type "Exception", .type "BaseException", .type "object"] "ValueError.__new__" = true) (xk_NotFilled : PySem.W.keepIn K (.ref A_NotFilled) = true) (xb_NotFilled : PySem.W.subIn K (.ref A_NotFilled) (.type "BaseException") = some true) (xt_NotFilled : PySem.W.typeIn K (.ref A_NotFilled) = some (.type "type")) (xi_NotFilled : PySem.W.isClsIn K A_NotFilled = true) (xs_NotFlat_NotFlat : PySem.W.subIn K (.ref A_NotFlat) (.ref A_NotFlat) = some true) (xs_NotFlat_TooSmall : PySem.W.subIn K (.ref A_NotFlat) (.ref A_TooSmall) = some false) (xs_NotFlat_WallsError : PySem.W.subIn K (.ref A_NotFlat) (.ref A_WallsError) = some true) (xs_NotFlat_NotFilled : PySem.W.subIn K (.ref A_NotFlat) (.ref A_NotFilled) = some false) (xs_TooSmall_NotFlat : PySem.W.subIn K (.ref A_TooSmall) (.ref A_NotFlat) = some false) (xs_TooSmall_TooSmall : PySem.W.subIn K (.ref A_TooSmall) (.ref A_TooSmall) = some true) (xs_TooSmall_WallsError : PySem.W.subIn K (.ref A_TooSmall) (.ref A_WallsError) = some true) (xs_TooSmall_NotFilled : PySem.W.subIn K (.ref A_TooSmall) (.ref A_NotFilled) = some false) (xs_WallsError_NotFlat : PySem.W.subIn K (.ref A_WallsError) (.ref A_NotFlat) = some false) (xs_WallsError_TooSmall : PySem.W.subIn K (.ref A_WallsError) (.ref A_TooSmall) = some false) (xs_WallsError_WallsError : PySem.W.subIn K (.ref A_WallsError) (.ref A_WallsError) = some true) (xs_WallsError_NotFilled : PySem.W.subIn K (.ref A_WallsError) (.ref A_NotFilled) = some false) (xs_NotFilled_NotFlat : PySem.W.subIn K (.ref A_NotFilled) (.ref A_NotFlat) = some false) (xs_NotFilled_TooSmall : PySem.W.subIn K (.ref A_NotFilled) (.ref A_TooSmall) = some false) (xs_NotFilled_WallsError : PySem.W.subIn K (.ref A_NotFilled) (.ref A_WallsError) = some true) (xs_NotFilled_NotFilled : PySem.W.subIn K (.ref A_NotFilled) (.ref A_NotFilled) = some true) (xe_NotFlat : ExcC K A_NotFlat) (xo_NotFlat_ValueError : PySem.W.kitOne K (.ref A_NotFlat) (.type "ValueError") = some true) (xo_NotFlat_NotFilled : PySem.W.kitOne K (.ref A_NotFlat) (.ref A_NotFilled) = some false) (xo_NotFlat_TooSmall : PySem.W.kitOne K (.ref A_NotFlat) (.ref A_TooSmall) = some false) (xo_NotFlat_NotFlat : PySem.W.kitOne K (.ref A_NotFlat) (.ref A_NotFlat) = some true) (xe_TooSmall : ExcC K A_TooSmall) (xo_TooSmall_ValueError : PySem.W.kitOne K (.ref A_TooSmall) (.type "ValueError") = some true) (xo_TooSmall_NotFilled : PySem.W.kitOne K (.ref A_TooSmall) (.ref A_NotFilled) = some false) (xo_TooSmall_TooSmall : PySem.W.kitOne K (.ref A_TooSmall) (.ref A_TooSmall) = some true) (xo_TooSmall_NotFlat : PySem.W.kitOne K (.ref A_TooSmall) (.ref A_NotFlat) = some false) (xe_WallsError : ExcC K A_WallsError) (xo_WallsError_ValueError : PySem.W.kitOne K (.ref A_WallsError) (.type "ValueError") = some true) (xo_WallsError_NotFilled : PySem.W.kitOne K (.ref A_WallsError) (.ref A_NotFilled) = some false) (xo_WallsError_TooSmall : PySem.W.kitOne K (.ref A_WallsError) (.ref A_TooSmall) = some false) (xo_WallsError_NotFlat : PySem.W.kitOne K (.ref A_WallsError) (.ref A_NotFlat) = some false) (xe_NotFilled : ExcC K A_NotFilled) (xo_NotFilled_ValueError : PySem.W.kitOne K (.ref A_NotFilled) (.type "ValueError") = some true) (xo_NotFilled_NotFilled : PySem.W.kitOne K (.ref A_NotFilled) (.ref A_NotFilled) = some true) (xo_NotFilled_TooSmall : PySem.W.kitOne K (.ref A_NotFilled) (.ref A_TooSmall) = some false) (xo_NotFilled_NotFlat : PySem.W.kitOne K (.ref A_NotFilled) (.ref A_NotFlat) = some false) :
    ∃ fd : FuncData, (∀ (s : Shared) (v : Value), BindsTo s fd ⟨[v], []⟩ [("_law_script", v)]) ∧ ∀ base : Heap, K.In base → base.Ns mainGlobals mg → FnOk l.prog w K mg base CX0 9 fa fd ["_law_script"] (spLaw K) := by
  letI : Tabs := ⟨fun _ => 0, fun _ => ""⟩
  have g_behind : mg "behind" = some (.ref f_behind) := PySem.W.mg_of X G d_behind.1
  have g_steps_of : mg "steps_of" = some (.ref f_steps_of) := PySem.W.mg_of X G d_steps_of.1
  have g_tie_name : mg "tie_name" = some (.ref f_tie_name) := PySem.W.mg_of X G d_tie_name.1
  have g_ties : mg "ties" = some (.ref f_ties) := PySem.W.mg_of X G d_ties.1
  have g_within : mg "within" = some (.ref f_within) := PySem.W.mg_of X G d_within.1
  have g_part_of : mg "part_of" = some (.ref f_part_of) := PySem.W.mg_of X G d_part_of.1
  have g_open_rows : mg "open_rows" = some (.ref f_open_rows) := PySem.W.mg_of X G d_open_rows.1
  have g_closed_rows : mg "closed_rows" = some (.ref f_closed_rows) := PySem.W.mg_of X G d_closed_rows.1
  have g_put_behind : mg "put_behind" = some (.ref f_put_behind) := PySem.W.mg_of X G d_put_behind.1
  have g_corner_to_cut : mg "corner_to_cut" = some (.ref f_corner_to_cut) := PySem.W.mg_of X G d_corner_to_cut.1
  have g__law_mixed : mg "_law_mixed" = some (.ref f__law_mixed) := PySem.W.mg_of X G d__law_mixed.1
  have g__law_next : mg "_law_next" = some (.ref f__law_next) := PySem.W.mg_of X G d__law_next.1
  have g__law_behind : mg "_law_behind" = some (.ref f__law_behind) := PySem.W.mg_of X G d__law_behind.1
  have g__law_put_behind : mg "_law_put_behind" = some (.ref f__law_put_behind) := PySem.W.mg_of X G d__law_put_behind.1
  have g__law_twin : mg "_law_twin" = some (.ref f__law_twin) := PySem.W.mg_of X G d__law_twin.1
  have g_face_from : mg "face_from" = some (.ref f_face_from) := PySem.W.mg_of X G d_face_from.1
  have g_parts : mg "parts" = some (.ref f_parts) := PySem.W.mg_of X G d_parts.1
  have g_cut_corner : mg "cut_corner" = some (.ref f_cut_corner) := PySem.W.mg_of X G d_cut_corner.1
  have g__law_draws : mg "_law_draws" = some (.ref f__law_draws) := PySem.W.mg_of X G d__law_draws.1
  have g__law_names : mg "_law_names" = some (.ref f__law_names) := PySem.W.mg_of X G d__law_names.1
  have g__law_stand_in : mg "_law_stand_in" = some (.ref f__law_stand_in) := PySem.W.mg_of X G d__law_stand_in.1
  have g__law_begun : mg "_law_begun" = some (.ref f__law_begun) := PySem.W.mg_of X G d__law_begun.1
  have g__law_changed : mg "_law_changed" = some (.ref f__law_changed) := PySem.W.mg_of X G d__law_changed.1
  have g__law_beside : mg "_law_beside" = some (.ref f__law_beside) := PySem.W.mg_of X G d__law_beside.1
  have g_faces : mg "faces" = some (.ref f_faces) := PySem.W.mg_of X G d_faces.1
  have g_join_parts : mg "join_parts" = some (.ref f_join_parts) := PySem.W.mg_of X G d_join_parts.1
  have g_cut_face : mg "cut_face" = some (.ref f_cut_face) := PySem.W.mg_of X G d_cut_face.1
  have g__law_full : mg "_law_full" = some (.ref f__law_full) := PySem.W.mg_of X G d__law_full.1
  have g__law_crossed : mg "_law_crossed" = some (.ref f__law_crossed) := PySem.W.mg_of X G d__law_crossed.1
  have g_is_flat_part : mg "is_flat_part" = some (.ref f_is_flat_part) := PySem.W.mg_of X G d_is_flat_part.1
  have g__law_some_full : mg "_law_some_full" = some (.ref f__law_some_full) := PySem.W.mg_of X G d__law_some_full.1
  have g__law_crooked : mg "_law_crooked" = some (.ref f__law_crooked) := PySem.W.mg_of X G d__law_crooked.1
  have g_crooked : mg "crooked" = some (.ref f_crooked) := PySem.W.mg_of X G d_crooked.1
  have g_is_flat : mg "is_flat" = some (.ref f_is_flat) := PySem.W.mg_of X G d_is_flat.1
  have g_filled : mg "filled" = some (.ref f_filled) := PySem.W.mg_of X G d_filled.1
  have g__law_refused : mg "_law_refused" = some (.ref f__law_refused) := PySem.W.mg_of X G d__law_refused.1
  have g_law : mg "law" = some (.ref f_law) := PySem.W.mg_of X G d_law.1
  have m_len : mg "len" = none := PySem.W.mg_none_of X G z_len
  have m_sorted : mg "sorted" = none := PySem.W.mg_none_of X G z_sorted
  have m_max : mg "max" = none := PySem.W.mg_none_of X G z_max
  have m_min : mg "min" = none := PySem.W.mg_none_of X G z_min
  have m_tuple : mg "tuple" = none := PySem.W.mg_none_of X G z_tuple
  have m_list : mg "list" = none := PySem.W.mg_none_of X G z_list
  have m_range : mg "range" = none := PySem.W.mg_none_of X G z_range
  have m_abs : mg "abs" = none := PySem.W.mg_none_of X G z_abs
  have m_isinstance : mg "isinstance" = none := PySem.W.mg_none_of X G z_isinstance
  have m_ValueError : mg "ValueError" = none := PySem.W.mg_none_of X G z_ValueError
  have q_FEWEST : ∃ t, mg "FEWEST" = some (.int 3 t) := ⟨_, PySem.W.mg_of X G y_FEWEST⟩
  have XC_NotFlat : XcOk K mg "NotFlat" ((fun i => [A_NotFlat, A_TooSmall, A_WallsError, A_NotFilled].getD i 0) 0) := ⟨PySem.W.mg_of X G n_NotFlat, xq_NotFlat, xk_NotFlat, xb_NotFlat, xt_NotFlat⟩
  have XC_TooSmall : XcOk K mg "TooSmall" ((fun i => [A_NotFlat, A_TooSmall, A_WallsError, A_NotFilled].getD i 0) 1) := ⟨PySem.W.mg_of X G n_TooSmall, xq_TooSmall, xk_TooSmall, xb_TooSmall, xt_TooSmall⟩
  have XC_WallsError : XcOk K mg "WallsError" ((fun i => [A_NotFlat, A_TooSmall, A_WallsError, A_NotFilled].getD i 0) 2) := ⟨PySem.W.mg_of X G n_WallsError, xq_WallsError, xk_WallsError, xb_WallsError, xt_WallsError⟩
  have XC_NotFilled : XcOk K mg "NotFilled" ((fun i => [A_NotFlat, A_TooSmall, A_WallsError, A_NotFilled].getD i 0) 3) := ⟨PySem.W.mg_of X G n_NotFilled, xq_NotFilled, xk_NotFilled, xb_NotFilled, xt_NotFilled⟩
  have XM : ∀ c d, c < 4 → d < 4 → PySem.W.exmOne K (.ref ((fun i => [A_NotFlat, A_TooSmall, A_WallsError, A_NotFilled].getD i 0) c)) (.ref ((fun i => [A_NotFlat, A_TooSmall, A_WallsError, A_NotFilled].getD i 0) d)) = some (subC c d) := by
    intro c d hc hd
    have hc2 : c = 0 ∨ c = 1 ∨ c = 2 ∨ c = 3 := by omega
    have hd2 : d = 0 ∨ d = 1 ∨ d = 2 ∨ d = 3 := by omega
    rcases hc2 with rfl | rfl | rfl | rfl <;> rcases hd2 with rfl | rfl | rfl | rfl
    · exact exm_of xb_NotFlat xi_NotFlat xt_NotFlat xs_NotFlat_NotFlat
    · exact exm_of xb_TooSmall xi_TooSmall xt_TooSmall xs_NotFlat_TooSmall
    · exact exm_of xb_WallsError xi_WallsError xt_WallsError xs_NotFlat_WallsError
    · exact exm_of xb_NotFilled xi_NotFilled xt_NotFilled xs_NotFlat_NotFilled
    · exact exm_of xb_NotFlat xi_NotFlat xt_NotFlat xs_TooSmall_NotFlat
    · exact exm_of xb_TooSmall xi_TooSmall xt_TooSmall xs_TooSmall_TooSmall
    · exact exm_of xb_WallsError xi_WallsError xt_WallsError xs_TooSmall_WallsError
    · exact exm_of xb_NotFilled xi_NotFilled xt_NotFilled xs_TooSmall_NotFilled
    · exact exm_of xb_NotFlat xi_NotFlat xt_NotFlat xs_WallsError_NotFlat
    · exact exm_of xb_TooSmall xi_TooSmall xt_TooSmall xs_WallsError_TooSmall
    · exact exm_of xb_WallsError xi_WallsError xt_WallsError xs_WallsError_WallsError
    · exact exm_of xb_NotFilled xi_NotFilled xt_NotFilled xs_WallsError_NotFilled
    · exact exm_of xb_NotFlat xi_NotFlat xt_NotFlat xs_NotFilled_NotFlat
    · exact exm_of xb_TooSmall xi_TooSmall xt_TooSmall xs_NotFilled_TooSmall
    · exact exm_of xb_WallsError xi_WallsError xt_WallsError xs_NotFilled_WallsError
    · exact exm_of xb_NotFilled xi_NotFilled xt_NotFilled xs_NotFilled_NotFilled
  have XI_ValueError : XisOk (fun i => .ref ((fun i => [A_NotFlat, A_TooSmall, A_WallsError, A_NotFilled].getD i 0) i)) K 4 (.type "ValueError") (fun _ => true) := ⟨fun c hc => by
    have hc2 : c = 0 ∨ c = 1 ∨ c = 2 ∨ c = 3 := by omega
    rcases hc2 with rfl | rfl | rfl | rfl
    · exact ⟨_, rfl, xe_NotFlat, xo_NotFlat_ValueError⟩
    · exact ⟨_, rfl, xe_TooSmall, xo_TooSmall_ValueError⟩
    · exact ⟨_, rfl, xe_WallsError, xo_WallsError_ValueError⟩
    · exact ⟨_, rfl, xe_NotFilled, xo_NotFilled_ValueError⟩⟩
  have XI_NotFilled : XisOk (fun i => .ref ((fun i => [A_NotFlat, A_TooSmall, A_WallsError, A_NotFilled].getD i 0) i)) K 4 (.ref ((fun i => [A_NotFlat, A_TooSmall, A_WallsError, A_NotFilled].getD i 0) 3)) (fun c => subC c 3) := ⟨fun c hc => by
    have hc2 : c = 0 ∨ c = 1 ∨ c = 2 ∨ c = 3 := by omega
    rcases hc2 with rfl | rfl | rfl | rfl
    · exact ⟨_, rfl, xe_NotFlat, xo_NotFlat_NotFilled⟩
    · exact ⟨_, rfl, xe_TooSmall, xo_TooSmall_NotFilled⟩
    · exact ⟨_, rfl, xe_WallsError, xo_WallsError_NotFilled⟩
    · exact ⟨_, rfl, xe_NotFilled, xo_NotFilled_NotFilled⟩⟩
  have XI_TooSmall : XisOk (fun i => .ref ((fun i => [A_NotFlat, A_TooSmall, A_WallsError, A_NotFilled].getD i 0) i)) K 4 (.ref ((fun i => [A_NotFlat, A_TooSmall, A_WallsError, A_NotFilled].getD i 0) 1)) (fun c => subC c 1) := ⟨fun c hc => by
    have hc2 : c = 0 ∨ c = 1 ∨ c = 2 ∨ c = 3 := by omega
    rcases hc2 with rfl | rfl | rfl | rfl
    · exact ⟨_, rfl, xe_NotFlat, xo_NotFlat_TooSmall⟩
    · exact ⟨_, rfl, xe_TooSmall, xo_TooSmall_TooSmall⟩
    · exact ⟨_, rfl, xe_WallsError, xo_WallsError_TooSmall⟩
    · exact ⟨_, rfl, xe_NotFilled, xo_NotFilled_TooSmall⟩⟩
  have XI_NotFlat : XisOk (fun i => .ref ((fun i => [A_NotFlat, A_TooSmall, A_WallsError, A_NotFilled].getD i 0) i)) K 4 (.ref ((fun i => [A_NotFlat, A_TooSmall, A_WallsError, A_NotFilled].getD i 0) 0)) (fun c => subC c 0) := ⟨fun c hc => by
    have hc2 : c = 0 ∨ c = 1 ∨ c = 2 ∨ c = 3 := by omega
    rcases hc2 with rfl | rfl | rfl | rfl
    · exact ⟨_, rfl, xe_NotFlat, xo_NotFlat_NotFlat⟩
    · exact ⟨_, rfl, xe_TooSmall, xo_TooSmall_NotFlat⟩
    · exact ⟨_, rfl, xe_WallsError, xo_WallsError_NotFlat⟩
    · exact ⟨_, rfl, xe_NotFilled, xo_NotFilled_NotFlat⟩⟩
  have e := hfa.symm.trans g_law
  cases e
  refine ⟨fd_law, fun s v => ?_, fun base _ _ => ?_⟩
  · obtain ⟨oc, od, kV, doc, pm, an, cdv, ct, osl, efd, _, _⟩ := d_law.2.ex
    subst efd
    exact .of_eq rfl
  · have C_behind := ok_behind (P := l.prog) (w := w) (base := base) d_behind.2 g_behind m_len
    have C_steps_of := (ok_steps_of (P := l.prog) (w := w) (base := base) d_steps_of.2 g_steps_of m_sorted).fresh (toldF_ok Ew.g_steps_of)
    have C_tie_name := ok_tie_name (P := l.prog) (w := w) (base := base) d_tie_name.2 g_tie_name m_max m_min
    have C_ties := (ok_ties (P := l.prog) (w := w) (base := base) d_ties.2 g_ties m_sorted).fresh (toldF_ok Ew.g_ties)
    have C_within := (ok_within (P := l.prog) (w := w) (base := base) d_within.2 g_within m_tuple).fresh (toldF_ok Ew.g_within)
    have C_part_of := (ok_part_of (P := l.prog) (w := w) (base := base) d_part_of.2 g_part_of m_len m_tuple m_sorted).told (toldV_ok Ew.g_part_of)
    have C_open_rows := ok_open_rows (P := l.prog) (w := w) (base := base) d_open_rows.2 g_open_rows m_list
    have C_closed_rows := (ok_closed_rows (P := l.prog) (w := w) (base := base) d_closed_rows.2 g_closed_rows m_tuple).fresh (toldF_ok Ew.g_closed_rows)
    have C_put_behind := ok_put_behind (P := l.prog) (w := w) (base := base) d_put_behind.2 g_put_behind 
    have C_corner_to_cut := ok_corner_to_cut (P := l.prog) (w := w) (base := base) d_corner_to_cut.2 g_corner_to_cut m_len m_range
    have C__law_mixed := ok__law_mixed (P := l.prog) (w := w) (base := base) d__law_mixed.2 g__law_mixed 
    have C__law_next := ok__law_next (P := l.prog) (w := w) (base := base) d__law_next.2 g__law_next 
    have C__law_behind := ok__law_behind (P := l.prog) (w := w) (base := base) d__law_behind.2 g__law_behind m_len
    have C__law_put_behind := ok__law_put_behind (P := l.prog) (w := w) (base := base) d__law_put_behind.2 g__law_put_behind 
    have C__law_twin := (ok__law_twin (P := l.prog) (w := w) (base := base) d__law_twin.2 g__law_twin ).fresh (toldF_ok Ew.g__law_twin)
    have C_face_from := (ok_face_from (P := l.prog) (w := w) (base := base) d_face_from.2 g_face_from C_behind).fresh (toldF_ok Ew.g_face_from)
    have C_parts := (ok_parts (P := l.prog) (w := w) (base := base) d_parts.2 g_parts C_part_of m_sorted).fresh (toldF_ok Ew.g_parts)
    have C_cut_corner := ok_cut_corner (P := l.prog) (w := w) (base := base) d_cut_corner.2 g_cut_corner C_put_behind m_len
    have C__law_draws := ok__law_draws (P := l.prog) (w := w) (base := base) d__law_draws.2 g__law_draws C__law_mixed m_range m_min m_len m_abs
    have C__law_names := ok__law_names (P := l.prog) (w := w) (base := base) d__law_names.2 g__law_names C__law_next m_range
    have C__law_stand_in := ok__law_stand_in (P := l.prog) (w := w) (base := base) d__law_stand_in.2 g__law_stand_in C__law_put_behind
    have C__law_begun := (ok__law_begun (P := l.prog) (w := w) (base := base) d__law_begun.2 g__law_begun C__law_next C__law_mixed m_list m_max m_len m_tuple).fresh (toldF_ok Ew.g__law_begun)
    have C__law_changed := (ok__law_changed (P := l.prog) (w := w) (base := base) d__law_changed.2 g__law_changed C__law_next C__law_twin m_sorted m_len).fresh (toldF_ok Ew.g__law_changed)
    have C__law_beside := (ok__law_beside (P := l.prog) (w := w) (base := base) d__law_beside.2 g__law_beside C__law_twin C__law_next m_range).fresh (toldF_ok Ew.g__law_beside)
    have C_faces := (ok_faces (P := l.prog) (w := w) (base := base) d_faces.2 g_faces C_steps_of C_face_from m_tuple).fresh (toldF_ok Ew.g_faces)
    have C_join_parts := ok_join_parts (P := l.prog) (w := w) (base := base) d_join_parts.2 g_join_parts C_parts m_range m_len
    have C_cut_face := (ok_cut_face (P := l.prog) (w := w) (base := base) d_cut_face.2 g_cut_face C_face_from C_corner_to_cut C_cut_corner m_len).fresh (toldF_ok Ew.g_cut_face)
    have C__law_full := (ok__law_full (P := l.prog) (w := w) (base := base) d__law_full.2 g__law_full C__law_next C__law_behind C__law_stand_in m_len).fresh (toldF_ok Ew.g__law_full)
    have C__law_crossed := (ok__law_crossed (P := l.prog) (w := w) (base := base) d__law_crossed.2 g__law_crossed C__law_next C__law_names C__law_mixed m_len m_tuple).fresh (toldF_ok Ew.g__law_crossed)
    have C_is_flat_part := ok_is_flat_part (P := l.prog) (w := w) (base := base) d_is_flat_part.2 g_is_flat_part C_within C_ties C_faces m_len
    have C__law_some_full := (ok__law_some_full (P := l.prog) (w := w) (base := base) d__law_some_full.2 g__law_some_full C__law_next C__law_names C__law_full C__law_begun).told (toldV_ok Ew.g__law_some_full)
    have C__law_crooked := (ok__law_crooked (P := l.prog) (w := w) (base := base) d__law_crooked.2 g__law_crooked C__law_next C__law_crossed C__law_beside C__law_names C__law_full C__law_begun C__law_changed).told (toldV_ok Ew.g__law_crooked)
    have C_crooked := ok_crooked (P := l.prog) (w := w) (base := base) d_crooked.2 g_crooked C_parts C_is_flat_part
    have C_is_flat := ok_is_flat (P := l.prog) (w := w) (base := base) d_is_flat.2 g_is_flat C_crooked
    have C_filled := (ok_filled (P := l.prog) (w := w) (base := base) (cA := fun i => [A_NotFlat, A_TooSmall, A_WallsError, A_NotFilled].getD i 0) d_filled.2 g_filled C_is_flat C_open_rows C_join_parts C_closed_rows C_steps_of C_cut_face C_tie_name m_len m_sorted q_FEWEST XC_NotFlat XC_TooSmall).told
    have C__law_refused := (ok__law_refused (P := l.prog) (w := w) (base := base) (cA := fun i => [A_NotFlat, A_TooSmall, A_WallsError, A_NotFilled].getD i 0) d__law_refused.2 g__law_refused C_filled m_isinstance m_ValueError XC_WallsError XC_NotFilled XC_TooSmall XC_NotFlat XI_ValueError XI_NotFilled XI_TooSmall XI_NotFlat XM).told (toldV_ok Ew.g__law_refused)
    exact law_fn (ok_law d_law.2 C__law_draws C__law_names C__law_twin C__law_refused C__law_crooked C__law_some_full m_range) fun ns hl _ => law_true ns hl
end Ew
end
open PySem PySem.W PyProof.Rows in
set_option maxRecDepth 100000 in
set_option maxHeartbeats 0 in
theorem PySem.Challenge.cw_evenwalls_k20_fill_refused_holds : PySem.Challenge.rw_evenwalls_k20_fill_refused.Holds := by
  w_on; o_law; k_head; (case hw => w_witness2)
  k_fill
  refine L2.walk_ofB (l := PySem.Challenge.rw_evenwalls_k20_fill_refused) (n := 63) (k := 9) (x := "_law_script") (CX := fun _ => L2.CX0) (sp := fun w => Ew.spLaw _) rfl (by decide) rfl ⟨rfl, by decide, by decide⟩ (fun w h Y => PySem.W.kIn_of Y) ?F (fun _ _ a ns hl hb hO hS => ⟨a, ns, rfl, hS, hl, hb, hO, fun _ => rfl⟩) (fun _ _ _ _ _ h => h)
  case F =>
    intro w mg fa h KX G hmg
    refine' Ew.all_mk KX G hmg ?d_behind ?d_steps_of ?d_tie_name ?d_ties ?d_within ?d_part_of ?d_open_rows ?d_closed_rows ?d_put_behind ?d_corner_to_cut ?d__law_mixed ?d__law_next ?d__law_behind ?d__law_put_behind ?d__law_twin ?d_face_from ?d_parts ?d_cut_corner ?d__law_draws ?d__law_names ?d__law_stand_in ?d__law_begun ?d__law_changed ?d__law_beside ?d_faces ?d_join_parts ?d_cut_face ?d__law_full ?d__law_crossed ?d_is_flat_part ?d__law_some_full ?d__law_crooked ?d_crooked ?d_is_flat ?d_filled ?d__law_refused ?d_law ?z_len ?z_sorted ?z_max ?z_min ?z_tuple ?z_list ?z_range ?z_abs ?z_isinstance ?z_ValueError ?y_FEWEST ?n_NotFlat ?xq_NotFlat ?xk_NotFlat ?xb_NotFlat ?xt_NotFlat ?xi_NotFlat ?n_TooSmall ?xq_TooSmall ?xk_TooSmall ?xb_TooSmall ?xt_TooSmall ?xi_TooSmall ?n_WallsError ?xq_WallsError ?xk_WallsError ?xb_WallsError ?xt_WallsError ?xi_WallsError ?n_NotFilled ?xq_NotFilled ?xk_NotFilled ?xb_NotFilled ?xt_NotFilled ?xi_NotFilled ?xs_NotFlat_NotFlat ?xs_NotFlat_TooSmall ?xs_NotFlat_WallsError ?xs_NotFlat_NotFilled ?xs_TooSmall_NotFlat ?xs_TooSmall_TooSmall ?xs_TooSmall_WallsError ?xs_TooSmall_NotFilled ?xs_WallsError_NotFlat ?xs_WallsError_TooSmall ?xs_WallsError_WallsError ?xs_WallsError_NotFilled ?xs_NotFilled_NotFlat ?xs_NotFilled_TooSmall ?xs_NotFilled_WallsError ?xs_NotFilled_NotFilled ?xe_NotFlat ?xo_NotFlat_ValueError ?xo_NotFlat_NotFilled ?xo_NotFlat_TooSmall ?xo_NotFlat_NotFlat ?xe_TooSmall ?xo_TooSmall_ValueError ?xo_TooSmall_NotFilled ?xo_TooSmall_TooSmall ?xo_TooSmall_NotFlat ?xe_WallsError ?xo_WallsError_ValueError ?xo_WallsError_NotFilled ?xo_WallsError_TooSmall ?xo_WallsError_NotFlat ?xe_NotFilled ?xo_NotFilled_ValueError ?xo_NotFilled_NotFilled ?xo_NotFilled_TooSmall ?xo_NotFilled_NotFlat
    (case d_behind => exact Ew.defAt_mk (by k_is) (by k_is) (by k_is) (by k_is))
    (case d_steps_of => exact Ew.defAt_mk (by k_is) (by k_is) (by k_is) (by k_is))
    (case d_tie_name => exact Ew.defAt_mk (by k_is) (by k_is) (by k_is) (by k_is))
    (case d_ties => exact Ew.defAt_mk (by k_is) (by k_is) (by k_is) (by k_is))
    (case d_within => exact Ew.defAt_mk (by k_is) (by k_is) (by k_is) (by k_is))
    (case d_part_of => exact Ew.defAt_mk (by k_is) (by k_is) (by k_is) (by k_is))
    (case d_open_rows => exact Ew.defAt_mk (by k_is) (by k_is) (by k_is) (by k_is))
    (case d_closed_rows => exact Ew.defAt_mk (by k_is) (by k_is) (by k_is) (by k_is))
    (case d_put_behind => exact Ew.defAt_mk (by k_is) (by k_is) (by k_is) (by k_is))
    (case d_corner_to_cut => exact Ew.defAt_mk (by k_is) (by k_is) (by k_is) (by k_is))
    (case d__law_mixed => exact Ew.defAt_mk (by k_is) (by k_is) (by k_is) (by k_is))
    (case d__law_next => exact Ew.defAt_mk (by k_is) (by k_is) (by k_is) (by k_is))
    (case d__law_behind => exact Ew.defAt_mk (by k_is) (by k_is) (by k_is) (by k_is))
    (case d__law_put_behind => exact Ew.defAt_mk (by k_is) (by k_is) (by k_is) (by k_is))
    (case d__law_twin => exact Ew.defAt_mk (by k_is) (by k_is) (by k_is) (by k_is))
    (case d_face_from => exact Ew.defAt_mk (by k_is) (by k_is) (by k_is) (by k_is))
    (case d_parts => exact Ew.defAt_mk (by k_is) (by k_is) (by k_is) (by k_is))
    (case d_cut_corner => exact Ew.defAt_mk (by k_is) (by k_is) (by k_is) (by k_is))
    (case d__law_draws => exact Ew.defAt_mk (by k_is) (by k_is) (by k_is) (by k_is))
    (case d__law_names => exact Ew.defAt_mk (by k_is) (by k_is) (by k_is) (by k_is))
    (case d__law_stand_in => exact Ew.defAt_mk (by k_is) (by k_is) (by k_is) (by k_is))
    (case d__law_begun => exact Ew.defAt_mk (by k_is) (by k_is) (by k_is) (by k_is))
    (case d__law_changed => exact Ew.defAt_mk (by k_is) (by k_is) (by k_is) (by k_is))
    (case d__law_beside => exact Ew.defAt_mk (by k_is) (by k_is) (by k_is) (by k_is))
    (case d_faces => exact Ew.defAt_mk (by k_is) (by k_is) (by k_is) (by k_is))
    (case d_join_parts => exact Ew.defAt_mk (by k_is) (by k_is) (by k_is) (by k_is))
    (case d_cut_face => exact Ew.defAt_mk (by k_is) (by k_is) (by k_is) (by k_is))
    (case d__law_full => exact Ew.defAt_mk (by k_is) (by k_is) (by k_is) (by k_is))
    (case d__law_crossed => exact Ew.defAt_mk (by k_is) (by k_is) (by k_is) (by k_is))
    (case d_is_flat_part => exact Ew.defAt_mk (by k_is) (by k_is) (by k_is) (by k_is))
    (case d__law_some_full => exact Ew.defAt_mk (by k_is) (by k_is) (by k_is) (by k_is))
    (case d__law_crooked => exact Ew.defAt_mk (by k_is) (by k_is) (by k_is) (by k_is))
    (case d_crooked => exact Ew.defAt_mk (by k_is) (by k_is) (by k_is) (by k_is))
    (case d_is_flat => exact Ew.defAt_mk (by k_is) (by k_is) (by k_is) (by k_is))
    (case d_filled => exact Ew.defAt_mk (by k_is) (by k_is) (by k_is) (by k_is))
    (case d__law_refused => exact Ew.defAt_mk (by k_is) (by k_is) (by k_is) (by k_is))
    (case d_law => exact Ew.defAt_mk (by k_is) (by k_is) (by k_is) (by k_is))
    (case z_len => k_is)
    (case z_sorted => k_is)
    (case z_max => k_is)
    (case z_min => k_is)
    (case z_tuple => k_is)
    (case z_list => k_is)
    (case z_range => k_is)
    (case z_abs => k_is)
    (case z_isinstance => k_is)
    (case z_ValueError => k_is)
    (case y_FEWEST => k_is)
    (case n_NotFlat => first | k_exc | k_is | rfl)
    (case xq_NotFlat => first | k_exc | k_is | rfl)
    (case xk_NotFlat => first | k_exc | k_is | rfl)
    (case xb_NotFlat => first | k_exc | k_is | rfl)
    (case xt_NotFlat => first | k_exc | k_is | rfl)
    (case xi_NotFlat => first | k_exc | k_is | rfl)
    (case n_TooSmall => first | k_exc | k_is | rfl)
    (case xq_TooSmall => first | k_exc | k_is | rfl)
    (case xk_TooSmall => first | k_exc | k_is | rfl)
    (case xb_TooSmall => first | k_exc | k_is | rfl)
    (case xt_TooSmall => first | k_exc | k_is | rfl)
    (case xi_TooSmall => first | k_exc | k_is | rfl)
    (case n_WallsError => first | k_exc | k_is | rfl)
    (case xq_WallsError => first | k_exc | k_is | rfl)
    (case xk_WallsError => first | k_exc | k_is | rfl)
    (case xb_WallsError => first | k_exc | k_is | rfl)
    (case xt_WallsError => first | k_exc | k_is | rfl)
    (case xi_WallsError => first | k_exc | k_is | rfl)
    (case n_NotFilled => first | k_exc | k_is | rfl)
    (case xq_NotFilled => first | k_exc | k_is | rfl)
    (case xk_NotFilled => first | k_exc | k_is | rfl)
    (case xb_NotFilled => first | k_exc | k_is | rfl)
    (case xt_NotFilled => first | k_exc | k_is | rfl)
    (case xi_NotFilled => first | k_exc | k_is | rfl)
    (case xs_NotFlat_NotFlat => first | k_exc | k_is | rfl)
    (case xs_NotFlat_TooSmall => first | k_exc | k_is | rfl)
    (case xs_NotFlat_WallsError => first | k_exc | k_is | rfl)
    (case xs_NotFlat_NotFilled => first | k_exc | k_is | rfl)
    (case xs_TooSmall_NotFlat => first | k_exc | k_is | rfl)
    (case xs_TooSmall_TooSmall => first | k_exc | k_is | rfl)
    (case xs_TooSmall_WallsError => first | k_exc | k_is | rfl)
    (case xs_TooSmall_NotFilled => first | k_exc | k_is | rfl)
    (case xs_WallsError_NotFlat => first | k_exc | k_is | rfl)
    (case xs_WallsError_TooSmall => first | k_exc | k_is | rfl)
    (case xs_WallsError_WallsError => first | k_exc | k_is | rfl)
    (case xs_WallsError_NotFilled => first | k_exc | k_is | rfl)
    (case xs_NotFilled_NotFlat => first | k_exc | k_is | rfl)
    (case xs_NotFilled_TooSmall => first | k_exc | k_is | rfl)
    (case xs_NotFilled_WallsError => first | k_exc | k_is | rfl)
    (case xs_NotFilled_NotFilled => first | k_exc | k_is | rfl)
    (case xe_NotFlat => exact ⟨by first | k_is | rfl, by first | k_is | rfl, by first | k_is | rfl, by first | k_is | rfl, by first | k_is | rfl, by first | k_is | rfl, by first | k_is | rfl, by first | k_is | rfl⟩)
    (case xo_NotFlat_ValueError => first | k_is | rfl)
    (case xo_NotFlat_NotFilled => first | k_is | rfl)
    (case xo_NotFlat_TooSmall => first | k_is | rfl)
    (case xo_NotFlat_NotFlat => first | k_is | rfl)
    (case xe_TooSmall => exact ⟨by first | k_is | rfl, by first | k_is | rfl, by first | k_is | rfl, by first | k_is | rfl, by first | k_is | rfl, by first | k_is | rfl, by first | k_is | rfl, by first | k_is | rfl⟩)
    (case xo_TooSmall_ValueError => first | k_is | rfl)
    (case xo_TooSmall_NotFilled => first | k_is | rfl)
    (case xo_TooSmall_TooSmall => first | k_is | rfl)
    (case xo_TooSmall_NotFlat => first | k_is | rfl)
    (case xe_WallsError => exact ⟨by first | k_is | rfl, by first | k_is | rfl, by first | k_is | rfl, by first | k_is | rfl, by first | k_is | rfl, by first | k_is | rfl, by first | k_is | rfl, by first | k_is | rfl⟩)
    (case xo_WallsError_ValueError => first | k_is | rfl)
    (case xo_WallsError_NotFilled => first | k_is | rfl)
    (case xo_WallsError_TooSmall => first | k_is | rfl)
    (case xo_WallsError_NotFlat => first | k_is | rfl)
    (case xe_NotFilled => exact ⟨by first | k_is | rfl, by first | k_is | rfl, by first | k_is | rfl, by first | k_is | rfl, by first | k_is | rfl, by first | k_is | rfl, by first | k_is | rfl, by first | k_is | rfl⟩)
    (case xo_NotFilled_ValueError => first | k_is | rfl)
    (case xo_NotFilled_NotFilled => first | k_is | rfl)
    (case xo_NotFilled_TooSmall => first | k_is | rfl)
    (case xo_NotFilled_NotFlat => first | k_is | rfl)
