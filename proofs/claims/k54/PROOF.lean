import PyProof.Rows.All
import Wide.All
import OpenK.AllK
import Wide.FinOn
import PySem.Str
import HandS.ForMost
import HandS.Wide
import HandS.IsInst
import HandS.Style
import HandS.SortInts
import HandS.Conv
import HandS.EndBits
import HandS.Lambda
import HandS.Nested
import HandS.EndTab
import HandS.TupLen
import HandS.NoneIn
import HandS.TupAny
import HandS.Iter
import HandS.Strs
import HandS.More
import KE.KEqDict
import KE.OsSort
import KE.KDictSum
import KE.KIndexOf
import HandS.SortRule
import KE.GoesMore
import KE.GoesEnum
import HandS.Rev
import HandS.RevTup
import HandS.SetFor
import HandS.Set
import KE.SortKeyHeap
import HandS.SortKw
import HandS.Deep
import HandS.Zip
import HandS.Finally
import KE.SortData
import HandS.DeepEq
import HandS.WideBits
import HandS.DictEq
import PyProof.EqKinds
import PyProof.DictFindH
import HandS.WordsExc
import HandS.TryMany
import HandS.ExcIs
import KE.KDictCopyH
import KE.KDictKeyed
import HandS.Defaults
import HandS.CallSlots
import PySem.Challenge.RW_evenwalls_k54_whole_ways_from_a_point
section
set_option linter.all false
/-! EwS: a small machine for the Python of this program: values, cells, expressions and statements as functions of slots and cells. -/
namespace Ew
open PySem (Str)
/-- a key of a dict -/
abbrev MK := Sum Int Str
/-- a value; lst, dK, dT are lists and dicts that are never written again; ref n is the cell n; scr the script; row a tuple that is known to have no dict -/
inductive MV where
  | non | bl (b : Bool) | int (i : Int) | str (x : Str)
  | tup (xs : List MV) | lst (xs : List MV) | scr (xs : List Int)
  | dK (kvs : List (MK × MV)) | dT (kvs : List (List MK × MV))
  | ref (n : Nat)
  | row (xs : List MV)
/-- a cell: what may be written -/
inductive MC where
  | lst (xs : List MV) | dK (kvs : List (MK × MV)) | dT (kvs : List (List MK × MV))
  | lkK (kvs : List (MK × MV)) | lkT (kvs : List (List MK × MV))
  | tab (n : Nat)
abbrev MH := List MC
abbrev SM := List (Option MV)
abbrev XE := SM → MH → Option (MV × MH)
abbrev XT := SM → MH → Option (Bool × MH)
abbrev XA := SM → MH → Option (List MV × MH)
inductive Fl where
  | nx | rt (v : MV) | bk | ct
abbrev XS := SM → MH → Option (Fl × SM × MH)
abbrev XG := MV → SM → MH → Option (SM × MH)
abbrev Fn := List MV → MH → Option (MV × MH)

/-! ### expressions -/
def xVar (i : Nat) : XE := fun s h => match s[i]? with
  | some (some v) => some (v, h)
  | _ => none
def xC (v : MV) : XE := fun _ h => some (v, h)
/-- an operation of two values that changes nothing -/
def xOp (f : MH → MV → MV → Option MV) (a b : XE) : XE := fun s h => match a s h with
  | none => none
  | some (x, h1) => match b s h1 with
    | none => none
    | some (y, h2) => match f h2 x y with
      | none => none
      | some v => some (v, h2)
def xUn (f : MH → MV → Option MV) (a : XE) : XE := fun s h => match a s h with
  | none => none
  | some (x, h1) => match f h1 x with
    | none => none
    | some v => some (v, h1)
def xNil : XA := fun _ h => some ([], h)
def xCons (a : XE) (r : XA) : XA := fun s h => match a s h with
  | none => none
  | some (x, h1) => match r s h1 with
    | none => none
    | some (xs, h2) => some (x :: xs, h2)
/-- an operation of arguments that changes nothing -/
def xArgs (f : MH → List MV → Option MV) (a : XA) : XE := fun s h => match a s h with
  | none => none
  | some (xs, h1) => match f h1 xs with
    | none => none
    | some v => some (v, h1)
/-- a call -/
def xCall (g : Fn) (a : XA) : XE := fun s h => match a s h with
  | none => none
  | some (xs, h1) => g xs h1
def xTup (a : XA) : XE := fun s h => match a s h with
  | none => none
  | some (xs, h1) => some (.tup xs, h1)
/-- a tuple that is displayed, a row -/
def xTupR (a : XA) : XE := fun s h => match a s h with
  | none => none
  | some (xs, h1) => some (.row xs, h1)
def xLst (a : XA) : XE := fun s h => match a s h with
  | none => none
  | some (xs, h1) => some (.lst xs, h1)
/-- a fresh list or dict made a cell -/
def boxM (v : MV) (h : MH) : Option (MV × MH) := match v with
  | .lst xs => some (.ref h.length, h ++ [.lst xs])
  | .dK kvs => some (.ref h.length, h ++ [.dK kvs])
  | .dT kvs => some (.ref h.length, h ++ [.dT kvs])
  | _ => none
def xBox (e : XE) : XE := fun s h => match e s h with
  | none => none
  | some (v, h1) => boxM v h1
def xIf (c : XT) (a b : XE) : XE := fun s h => match c s h with
  | none => none
  | some (true, h1) => a s h1
  | some (false, h1) => b s h1
/-- and, or, not as values -/
def xAnd (a b : XE) : XE := fun s h => match a s h with
  | some (.bl true, h1) => b s h1
  | some (.bl false, h1) => some (.bl false, h1)
  | _ => none
def xOr (a b : XE) : XE := fun s h => match a s h with
  | some (.bl true, h1) => some (.bl true, h1)
  | some (.bl false, h1) => b s h1
  | _ => none
def xNot (a : XE) : XE := fun s h => match a s h with
  | some (.bl k, h1) => some (.bl (!k), h1)
  | _ => none
/-! ### tests -/
def xB (a : XE) : XT := fun s h => match a s h with
  | some (.bl k, h1) => some (k, h1)
  | _ => none
def xAndT (a b : XT) : XT := fun s h => match a s h with
  | none => none
  | some (true, h1) => b s h1
  | some (false, h1) => some (false, h1)
def xOrT (a b : XT) : XT := fun s h => match a s h with
  | none => none
  | some (true, h1) => some (true, h1)
  | some (false, h1) => b s h1
def xNotT (a : XT) : XT := fun s h => match a s h with
  | none => none
  | some (k, h1) => some (!k, h1)

/-! ### what is read of values -/
/-- a list: a value, the script, a cell -/
def listOf (h : MH) : MV → Option (List MV)
  | .lst xs => some xs
  | .scr xs => some (xs.map .int)
  | .ref n => match h[n]? with
    | some (.lst xs) => some xs
    | _ => none
  | _ => none
/-- a list or a tuple -/
def seqOf (h : MH) : MV → Option (List MV)
  | .tup xs => some xs
  | .row xs => some xs
  | v => listOf h v
def dictK (h : MH) : MV → Option (List (MK × MV))
  | .dK kvs => some kvs
  | .ref n => match h[n]? with
    | some (.dK kvs) => some kvs
    | some (.lkK kvs) => some kvs
    | _ => none
  | _ => none
def dictT (h : MH) : MV → Option (List (List MK × MV))
  | .dT kvs => some kvs
  | .ref n => match h[n]? with
    | some (.dT kvs) => some kvs
    | some (.lkT kvs) => some kvs
    | _ => none
  | _ => none
def keyOf : MV → Option MK
  | .int i => some (.inl i)
  | .str x => some (.inr x)
  | _ => none
def keysOf : List MV → Option (List MK)
  | [] => some []
  | v :: r => match keyOf v, keysOf r with
    | some k, some ks => some (k :: ks)
    | _, _ => none
def keyV : MK → MV
  | .inl i => .int i
  | .inr x => .str x
def getK {κ : Type} [DecidableEq κ] (kvs : List (κ × MV)) (k : κ) : Option MV := (kvs.find? fun kv => decide (kv.1 = k)).map (·.2)
def putM {κ : Type} [DecidableEq κ] (kvs : List (κ × MV)) (k : κ) (v : MV) : List (κ × MV) :=
  if kvs.any (fun kv => decide (kv.1 = k)) then kvs.map (fun kv => if kv.1 = k then (kv.1, v) else kv) else kvs ++ [(k, v)]
/-- what a dict has at a key: none where it is no dict, no key -/
def lookM (h : MH) (d k : MV) : Option (Option MV) := match k with
  | .tup ks => match dictT h d, keysOf ks with
    | some kvs, some kk => some (getK kvs kk)
    | _, _ => none
  | k => match dictK h d, keyOf k with
    | some kvs, some kk => some (getK kvs kk)
    | _, _ => none

/-! ### numbers -/
def opAdd (_ : MH) : MV → MV → Option MV
  | .int i, .int j => some (.int (i + j))
  | _, _ => none
def opSub (_ : MH) : MV → MV → Option MV
  | .int i, .int j => some (.int (i - j))
  | _, _ => none
def opMul (_ : MH) : MV → MV → Option MV
  | .int i, .int j => if i.natAbs.log2 + j.natAbs.log2 < 1000000 then some (.int (i * j)) else none
  | _, _ => none
def opDiv (_ : MH) : MV → MV → Option MV
  | .int i, .int j => if 0 < j ∧ j.natAbs.log2 < 9000 then some (.int (i / j)) else none
  | _, _ => none
def opMod (_ : MH) : MV → MV → Option MV
  | .int i, .int j => if 0 < j then some (.int (i % j)) else none
  | _, _ => none
def opPow (_ : MH) : MV → MV → Option MV
  | .int i, .int j => if 0 ≤ j ∧ j ≤ 1000000 ∧ i.natAbs < 2 ^ 64 then some (.int (i ^ j.toNat)) else none
  | _, _ => none
def opNeg (_ : MH) : MV → Option MV
  | .int i => some (.int (-i))
  | _ => none
def opLt (_ : MH) : MV → MV → Option MV
  | .int i, .int j => some (.bl (decide (i < j)))
  | _, _ => none
def opLe (_ : MH) : MV → MV → Option MV
  | .int i, .int j => some (.bl (decide (i ≤ j)))
  | _, _ => none
def opGt (_ : MH) : MV → MV → Option MV
  | .int i, .int j => some (.bl (decide (j < i)))
  | _, _ => none
def opGe (_ : MH) : MV → MV → Option MV
  | .int i, .int j => some (.bl (decide (j ≤ i)))
  | _, _ => none
/-! ### equality of data -/
def strFine (x : Str) : Bool := x.cps.all (fun c => decide (c < 1114112)) && decide (x.cps.size ≤ 16777216)
mutual
/-- == of data -/
def eqD : MV → MV → Bool
  | .non, .non => true
  | .bl a, .bl b => a == b
  | .bl a, .int j => (if a then 1 else 0) == j
  | .int i, .bl b => i == (if b then 1 else 0)
  | .int a, .int b => a == b
  | .str a, .str b => a == b
  | .tup xs, .tup ys => eqDs xs ys
  | .row xs, .row ys => eqDs xs ys
  | .row xs, .tup ys => eqDs xs ys
  | .tup xs, .row ys => eqDs xs ys
  | .lst xs, .lst ys => eqDs xs ys
  | _, _ => false
def eqDs : List MV → List MV → Bool
  | [], [] => true
  | x :: xs, y :: ys => eqD x y && eqDs xs ys
  | _, _ => false
end
mutual
/-- data of some depth: None, truths, numbers, texts, tuples, lists -/
def isD : Nat → MV → Bool
  | _, .non => true
  | _, .bl _ => true
  | _, .int _ => true
  | _, .str x => strFine x
  | n + 1, .tup xs => isDs n xs
  | n + 1, .row xs => isDs n xs
  | n + 1, .lst xs => isDs n xs
  | _, _ => false
def isDs : Nat → List MV → Bool
  | _, [] => true
  | n, x :: xs => isD n x && isDs n xs
end
def eqM (x y : MV) : Option Bool := if isD 60 x && isD 60 y then some (eqD x y) else none
/-- a cell of data read as a value -/
def rdM (h : MH) : MV → MV
  | .ref n => match h[n]? with
    | some (.lst xs) => .lst xs
    | _ => .ref n
  | v => v
def opEq0 (h : MH) (x y : MV) : Option MV := (eqM (rdM h x) (rdM h y)).map .bl
def opNe0 (h : MH) (x y : MV) : Option MV := (eqM (rdM h x) (rdM h y)).map fun k => .bl (!k)
/-- == of dicts of data -/
def eqKs (xs ys : List (MK × MV)) : Bool := xs.length == ys.length && xs.all fun kv => match getK ys kv.1 with
  | some y => eqD kv.2 y
  | none => false
def dataKs (xs : List (MK × MV)) : Bool := xs.all fun kv => isD 50 kv.2
def opEq (h : MH) (x y : MV) : Option MV := match dictK h x, dictK h y with
  | some xs, some ys => if dataKs xs && dataKs ys then some (.bl (eqKs xs ys)) else none
  | _, _ => opEq0 h x y
def opNe (h : MH) (x y : MV) : Option MV := match dictK h x, dictK h y with
  | some xs, some ys => if dataKs xs && dataKs ys then some (.bl (!eqKs xs ys)) else none
  | _, _ => opNe0 h x y
def opIsNon (_ : MH) (x : MV) (y : MV) : Option MV := match y with
  | .non => some (.bl (match x with | .non => true | _ => false))
  | _ => none
def opNotNon (_ : MH) (x : MV) (y : MV) : Option MV := match y with
  | .non => some (.bl (match x with | .non => false | _ => true))
  | _ => none
/-! ### x in y -/
def flatM : MV → Bool
  | .non => true | .bl _ => true | .int _ => true | .str _ => true
  | _ => false
def feqM : MV → MV → Bool
  | .non, .non => true
  | .bl a, .bl b => a == b
  | .bl a, .int b => (if a then 1 else 0) == b
  | .int a, .bl b => a == (if b then 1 else 0)
  | .int a, .int b => a == b
  | .str a, .str b => a == b
  | _, _ => false
def inSeq (x : MV) (xs : List MV) : Option Bool := if flatM x && xs.all flatM then some (xs.any fun y => feqM y x) else none
def opIn (h : MH) (x d : MV) : Option MV := match seqOf h d with
  | some xs => (inSeq x xs).map .bl
  | none => (lookM h d x).map fun o => .bl o.isSome
def opNotIn (h : MH) (x d : MV) : Option MV := match seqOf h d with
  | some xs => (inSeq x xs).map fun k => .bl (!k)
  | none => (lookM h d x).map fun o => .bl (!o.isSome)
/-! ### items, slices -/
def ixM (n : Nat) (i : Int) : Option Nat := if 0 ≤ i then (if i < n then some i.toNat else none) else if -(n : Int) ≤ i then some (i + n).toNat else none
def atM (xs : List MV) (i : Int) : Option MV := (ixM xs.length i).bind fun j => xs[j]?
/-- o[i] -/
def opIx (h : MH) (d k : MV) : Option MV := match seqOf h d, k with
  | some xs, .int i => atM xs i
  | some _, _ => none
  | none, k => match lookM h d k with
    | some (some v) => some v
    | _ => none
def sIxM (n d : Nat) : Option Int → Nat
  | none => d
  | some v => if v < 0 then (v + (n : Int)).toNat else min v.toNat n
def cutM (xs : List MV) (lo hi : Option Int) : List MV := (xs.drop (sIxM xs.length 0 lo)).take (sIxM xs.length xs.length hi - sIxM xs.length 0 lo)
abbrev XO := SM → MH → Option (Option Int × MH)
def xNoPart : XO := fun _ h => some (none, h)
def xPart (e : XE) : XO := fun s h => match e s h with
  | some (.int i, h1) => some (some i, h1)
  | _ => none
/-- xs[lo:hi] of a list: a fresh list -/
def xSlL (e : XE) (lo hi : XO) : XE := fun s h => match e s h with
  | none => none
  | some (v, h1) => match lo s h1 with
    | none => none
    | some (l, h2) => match hi s h2 with
      | none => none
      | some (u, h3) => match listOf h3 v with
        | none => none
        | some xs => some (.lst (cutM xs l u), h3)
/-! ### built-ins -/
def szLine : Nat := 16777216
def fLen (h : MH) : List MV → Option MV
  | [v] => match seqOf h v with
    | some xs => some (.int xs.length)
    | none => match dictK h v with
      | some kvs => some (.int kvs.length)
      | none => match dictT h v with
        | some kvs => some (.int kvs.length)
        | none => none
  | _ => none
def fAbs (_ : MH) : List MV → Option MV
  | [.int i] => some (.int (if i < 0 then -i else i))
  | _ => none
def fMax2 (_ : MH) : List MV → Option MV
  | [.int i, .int j] => some (.int (if j > i then j else i))
  | _ => none
def fMin2 (_ : MH) : List MV → Option MV
  | [.int i, .int j] => some (.int (if j < i then j else i))
  | _ => none
/-- a value's type by its name -/
def tyN (h : MH) : MV → Option String
  | .non => some "NoneType"
  | .bl _ => some "bool"
  | .int _ => some "int"
  | .str _ => some "str"
  | .tup _ => some "tuple"
  | .row _ => some "tuple"
  | .lst _ => some "list"
  | .scr _ => some "list"
  | .dK _ => some "dict"
  | .dT _ => none
  | .ref n => match h[n]? with
    | some (.lst _) => some "list"
    | some (.dK _) => some "dict"
    | some (.dT _) => some "dict"
    | some (.lkK _) => some "dict"
    | _ => none
def subTy (a t : String) : Bool := a == t || (a == "bool" && t == "int")
def fIsi (t : String) (h : MH) : List MV → Option MV
  | [v] => match tyN h v with
    | some a => some (.bl (subTy a t))
    | none => none
  | _ => none
/-- list(x) of a list or tuple -/
def fList (h : MH) : List MV → Option MV
  | [v] => (seqOf h v).map .lst
  | _ => none
/-- tuple(x) of a list or tuple -/
def fTuple (h : MH) : List MV → Option MV
  | [.tup xs] => some (.tup xs)
  | [v] => (seqOf h v).map .row
  | _ => none
def intsOf : List MV → Option (List Int)
  | [] => some []
  | .int k :: r => (intsOf r).map (k :: ·)
  | _ => none
/-! ### methods that write into a cell -/
def isLstC (h : MH) (n : Nat) : Bool := match h[n]? with
  | some (.lst _) => true
  | _ => false
def xAppend (o e : XE) : XE := fun s h => match o s h with
  | some (.ref n, h1) => if isLstC h1 n then match e s h1 with
    | some (v, h2) => match h2[n]? with
      | some (.lst xs) => if xs.length < szLine then some (.non, h2.set n (.lst (xs ++ [v]))) else none
      | _ => none
    | none => none
    else none
  | _ => none
def xExtend (o e : XE) : XE := fun s h => match o s h with
  | some (.ref n, h1) => if isLstC h1 n then match e s h1 with
    | some (.lst ys, h2) => match h2[n]? with
      | some (.lst xs) => if xs.length + ys.length ≤ szLine then some (.non, h2.set n (.lst (xs ++ ys))) else none
      | _ => none
    | _ => none
    else none
  | _ => none
/-- l.extend(t), a tuple -/
def xExtendT (o e : XE) : XE := fun s h => match o s h with
  | some (.ref n, h1) => if isLstC h1 n then match e s h1 with
    | some (.tup ys, h2) => match h2[n]? with
      | some (.lst xs) => if xs.length + ys.length ≤ szLine then some (.non, h2.set n (.lst (xs ++ ys))) else none
      | _ => none
    | _ => none
    else none
  | _ => none
def xPop (o : XE) : XE := fun s h => match o s h with
  | some (.ref n, h1) => match h1[n]? with
    | some (.lst xs) => match xs[xs.length - 1]? with
      | some y => some (y, h1.set n (.lst xs.dropLast))
      | none => none
    | _ => none
  | _ => none
def xPopAt (o i : XE) : XE := fun s h => match o s h with
  | some (.ref n, h1) => if isLstC h1 n then match i s h1 with
    | some (.int i, h2) => match h2[n]? with
      | some (.lst xs) => if -(2 ^ 62) ≤ i ∧ i < 2 ^ 62 then match ixM xs.length i with
        | some j => match xs[j]? with
          | some y => some (y, h2.set n (.lst (xs.eraseIdx j)))
          | none => none
        | none => none
        else none
      | _ => none
    | _ => none
    else none
  | _ => none

/-! ### statements -/
def sNext : XS := fun s h => some (.nx, s, h)
def sSeq (a b : XS) : XS := fun s h => match a s h with
  | some (.nx, s1, h1) => b s1 h1
  | r => r
def sExpr (e : XE) : XS := fun s h => match e s h with
  | none => none
  | some (_, h1) => some (.nx, s, h1)
def sRet (e : XE) : XS := fun s h => match e s h with
  | none => none
  | some (v, h1) => some (.rt v, s, h1)
def sRetN : XS := fun s h => some (.rt .non, s, h)
def sBk : XS := fun s h => some (.bk, s, h)
def sCt : XS := fun s h => some (.ct, s, h)
def sIf (c : XT) (a b : XS) : XS := fun s h => match c s h with
  | none => none
  | some (true, h1) => a s h1
  | some (false, h1) => b s h1
def gNm (i : Nat) : XG := fun v s h => some (s.set i (some v), h)
abbrev XGs := List MV → SM → MH → Option (SM × MH)
def gsNil : XGs := fun vs s h => match vs with
  | [] => some (s, h)
  | _ => none
def gsCons (g : XG) (r : XGs) : XGs := fun vs s h => match vs with
  | v :: vs => match g v s h with
    | none => none
    | some (s1, h1) => r vs s1 h1
  | [] => none
def gTp (n : Nat) (g : XGs) : XG := fun v s h => match v with
  | .tup xs => if xs.length = n then g xs s h else none
  | .row xs => if xs.length = n then g xs s h else none
  | _ => none
def sAsg (e : XE) (g : XG) : XS := fun s h => match e s h with
  | none => none
  | some (v, h1) => match g v s h1 with
    | none => none
    | some (s1, h2) => some (.nx, s1, h2)
abbrev sSet (i : Nat) (e : XE) : XS := sAsg e (gNm i)
/-- o[k] = v of a cell -/
def stM (h : MH) (o k v : MV) : Option MH := match o with
  | .ref n => match h[n]? with
    | some (.lst xs) => match k with
      | .int i => match ixM xs.length i with
        | some j => some (h.set n (.lst (xs.set j v)))
        | none => none
      | _ => none
    | some (.dK kvs) => match keyOf k with
      | some kk => if kvs.length < szLine then some (h.set n (.dK (putM kvs kk v))) else none
      | none => none
    | some (.dT kvs) => match k with
      | .tup ks => match keysOf ks with
        | some kk => if kvs.length < szLine then some (h.set n (.dT (putM kvs kk v))) else none
        | none => none
      | _ => none
    | _ => none
  | _ => none
/-- o[k] = e: first e, then o, then k -/
def sPut (o k e : XE) : XS := fun s h => match e s h with
  | none => none
  | some (v, h1) => match o s h1 with
    | none => none
    | some (d, h2) => match k s h2 with
      | none => none
      | some (kk, h3) => match stM h3 d kk v with
        | none => none
        | some h4 => some (.nx, s, h4)
/-- a, b = e1, e2 -/
def sPar (i j : Nat) (a b : XE) : XS := fun s h => match a s h with
  | none => none
  | some (v, h1) => match b s h1 with
    | none => none
    | some (w, h2) => some (.nx, (s.set i (some v)).set j (some w), h2)
/-- a, b, c = e1, e2, e3 -/
def sPar3 (i j l : Nat) (a b c : XE) : XS := fun s h => match a s h with
  | none => none
  | some (v, h1) => match b s h1 with
    | none => none
    | some (w, h2) => match c s h2 with
      | none => none
      | some (x, h3) => some (.nx, ((s.set i (some v)).set j (some w)).set l (some x), h3)
/-- while, at most so many turns -/
def whileGo (c : XT) (b : XS) : Nat → XS
  | 0, _, _ => none
  | n + 1, s, h => match c s h with
    | none => none
    | some (false, h1) => some (.nx, s, h1)
    | some (true, h1) => match b s h1 with
      | some (.nx, s2, h2) => whileGo c b n s2 h2
      | some (.ct, s2, h2) => whileGo c b n s2 h2
      | some (.bk, s2, h2) => some (.nx, s2, h2)
      | some (.rt v, s2, h2) => some (.rt v, s2, h2)
      | none => none
/-- what some number of turns answers -/
noncomputable def fuel {α : Type} (f : Nat → Option α) : Option α := open Classical in if hx : ∃ n r, f n = some r then some hx.choose_spec.choose else none
theorem fuel_at {α : Type} {f : Nat → Option α} {r : α} (e : fuel f = some r) : ∃ n, f n = some r := by
  unfold fuel at e
  split at e
  · rename_i hx
    cases e
    exact ⟨hx.choose, hx.choose_spec.choose_spec⟩
  · cases e
theorem fuel_of {α : Type} {f : Nat → Option α} (mono : ∀ n r, f n = some r → f (n + 1) = some r) {n : Nat} {r : α} (e : f n = some r) : fuel f = some r := by
  have up : ∀ (k m : Nat) (q : α), f m = some q → f (m + k) = some q := fun k => by
    induction k with
    | zero => exact fun _ _ h => h
    | succ k ih => exact fun m q h => mono _ _ (ih m q h)
  unfold fuel
  split
  · rename_i hx
    have h1 := up n hx.choose _ hx.choose_spec.choose_spec
    have h2 := up hx.choose n _ e
    rw [Nat.add_comm] at h1
    rw [h1] at h2
    exact h2
  · rename_i hx
    exact absurd ⟨n, r, e⟩ hx
noncomputable def sWhile (c : XT) (b : XS) : XS := fun s h => fuel fun n => whileGo c b n s h
/-- what is walked: values that stand still, or the list in a cell -/
inductive MI where
  | vals (xs : List MV) | cell (n : Nat)
abbrev XI := SM → MH → Option (MI × MH)
def forGo (g : XG) (b : XS) : List MV → XS
  | [], s, h => some (.nx, s, h)
  | x :: xs, s, h => match g x s h with
    | none => none
    | some (s1, h1) => match b s1 h1 with
      | some (.nx, s2, h2) => forGo g b xs s2 h2
      | some (.ct, s2, h2) => forGo g b xs s2 h2
      | some (.bk, s2, h2) => some (.nx, s2, h2)
      | some (.rt v, s2, h2) => some (.rt v, s2, h2)
      | none => none
def forCell (g : XG) (b : XS) (n : Nat) : Nat → Nat → XS
  | 0, _, _, _ => none
  | m + 1, i, s, h => match h[n]? with
    | some (.lst xs) => match xs[i]? with
      | none => some (.nx, s, h)
      | some x => match g x s h with
        | none => none
        | some (s1, h1) => match b s1 h1 with
          | some (.nx, s2, h2) => forCell g b n m (i + 1) s2 h2
          | some (.ct, s2, h2) => forCell g b n m (i + 1) s2 h2
          | some (.bk, s2, h2) => some (.nx, s2, h2)
          | some (.rt v, s2, h2) => some (.rt v, s2, h2)
          | none => none
    | _ => none
noncomputable def sFor (it : XI) (g : XG) (b : XS) : XS := fun s h => match it s h with
  | none => none
  | some (.vals xs, h1) => forGo g b xs s h1
  | some (.cell n, h1) => fuel fun t => forCell g b n t 0 s h1
/-- a list, a tuple that is walked -/
def iSeq (e : XE) : XI := fun s h => match e s h with
  | some (.ref n, h1) => match h1[n]? with
    | some (.lst _) => some (.cell n, h1)
    | _ => none
  | some (v, h1) => match seqOf h1 v with
    | some xs => some (.vals xs, h1)
    | none => none
  | none => none
def rngM (lo : Int) (n : Nat) : List MV := (List.range n).map fun i => .int (lo + (i : Nat))
def iRange1 (e : XE) : XI := fun s h => match e s h with
  | some (.int j, h1) => if -(2 ^ 62) ≤ j ∧ j < 2 ^ 62 then some (.vals (rngM 0 j.toNat), h1) else none
  | _ => none
def iRange2 (e f : XE) : XI := fun s h => match e s h with
  | some (.int i, h1) => match f s h1 with
    | some (.int j, h2) => if (-(2 ^ 62) ≤ i ∧ i < 2 ^ 62 ∧ -(2 ^ 62) ≤ j ∧ j < 2 ^ 62) then some (.vals (rngM i (j - i).toNat), h2) else none
    | _ => none
  | _ => none
/-- a comprehension's turns: the list made so far -/
def lcGo (g : XG) (c : XT) (e : XE) : List MV → List MV → SM → MH → Option (List MV × MH)
  | acc, [], _, h => some (acc, h)
  | acc, x :: xs, s, h => match g x s h with
    | none => none
    | some (s1, h1) => match c s1 h1 with
      | none => none
      | some (false, h2) => lcGo g c e acc xs s h2
      | some (true, h2) => match e s1 h2 with
        | none => none
        | some (v, h3) => if acc.length < szLine then lcGo g c e (acc ++ [v]) xs s h3 else none
def lcCell (g : XG) (c : XT) (e : XE) (n : Nat) : Nat → Nat → List MV → SM → MH → Option (List MV × MH)
  | 0, _, _, _, _ => none
  | m + 1, i, acc, s, h => match h[n]? with
    | some (.lst xs) => match xs[i]? with
      | none => some (acc, h)
      | some x => match g x s h with
        | none => none
        | some (s1, h1) => match c s1 h1 with
          | none => none
          | some (false, h2) => lcCell g c e n m (i + 1) acc s h2
          | some (true, h2) => match e s1 h2 with
            | none => none
            | some (v, h3) => if acc.length < szLine then lcCell g c e n m (i + 1) (acc ++ [v]) s h3 else none
    | _ => none
def wipeM (s : SM) : List Nat → SM
  | [] => s
  | v :: vs => (wipeM s vs).set v none
def cYes : XT := fun _ h => some (true, h)
/-- a comprehension over values that stand still -/
noncomputable def xLc (it : XI) (g : XG) (c : XT) (e : XE) (own : List Nat) : XE := fun s h => match it s h with
  | some (.vals xs, h1) => match lcGo g c e [] xs (wipeM s own) h1 with
    | some (ys, h2) => some (.lst ys, h2)
    | none => none
  | some (.cell n, h1) => match fuel fun t => lcCell g c e n t 0 [] (wipeM s own) h1 with
    | some (ys, h2) => some (.lst ys, h2)
    | none => none
  | none => none
def sBegin (n : Nat) (vs : List MV) : SM := vs.map some ++ List.replicate (n - vs.length) none
/-- a def: how many slots, its body -/
def runDef (n : Nat) (b : XS) : Fn := fun vs h => match b (sBegin n vs) h with
  | some (.rt v, _, h1) => some (v, h1)
  | some (.nx, _, h1) => some (.non, h1)
  | _ => none
/-! ### more operations -/
/-- a list that is no script -/
def lstC (h : MH) : MV → Option (List MV)
  | .lst xs => some xs
  | .ref n => match h[n]? with
    | some (.lst xs) => some xs
    | _ => none
  | _ => none
def opCat (h : MH) (x y : MV) : Option MV := match lstC h x, lstC h y with
  | some xs, some ys => if xs.length + ys.length ≤ szLine then some (.lst (xs ++ ys)) else none
  | _, _ => none
abbrev xCat (a b : XE) : XE := xOp opCat a b
/-- a tuple's members -/
def tupV : MV → Option (List MV)
  | .tup xs => some xs
  | .row xs => some xs
  | _ => none
def opCatT (_ : MH) : MV → MV → Option MV
  | x, y => match tupV x, tupV y with
    | some xs, some ys => if xs.length + ys.length ≤ szLine then some (if xs.isEmpty then y else if ys.isEmpty then x else .row (xs ++ ys)) else none
    | _, _ => none
/-- the first place, of a list that is not written again -/
def lstV : MV → Option (List MV)
  | .lst xs => some xs
  | _ => none
def opIndexL0 (_ : MH) (d y : MV) : Option MV := match lstV d with
  | some xs => if flatM y && xs.all flatM then (xs.findIdx? fun z => feqM z y).map fun j => .int (j : Nat) else none
  | none => none
def opIndexR (xs : List MV) (y : MV) : Option MV := match intsOf xs, y with
  | some ns, .int k => if k ∈ ns then some (.int (ns.idxOf k : Nat)) else none
  | _, _ => none
def opIndexL (h : MH) (d y : MV) : Option MV := match d with
  | .row xs => opIndexR xs y
  | d => opIndexL0 h d y
/-- list(d.keys()), sorted(d.keys()) -/
def fKeys (h : MH) (v : MV) : Option MV := (dictK h v).map fun kvs => .lst (kvs.map fun kv => keyV kv.1)
def sortI (ns : List Int) : List Int := ns.mergeSort fun x y => decide (x ≤ y)
def fKeysS (h : MH) (v : MV) : Option MV := match dictK h v with
  | some kvs => (intsOf (kvs.map fun kv => keyV kv.1)).map fun ns => .lst ((sortI ns).map .int)
  | none => none
/-- dict([(k, v), ..]) -/
def pairsK : List MV → Option (List (MK × MV))
  | [] => some []
  | x :: xs => match x with
    | .tup [k, v] => match keyOf k, pairsK xs with
      | some kk, some r => some ((kk, v) :: r)
      | _, _ => none
    | _ => none
/-- sorted(xs), ints, or a list of pairs of ints -/
def pairV (p : Int × Int) : MV := .tup [.int p.1, .int p.2]
def pairsI : List MV → Option (List (Int × Int))
  | [] => some []
  | x :: xs => match x with
    | .tup [.int a, .int b] => (pairsI xs).map ((a, b) :: ·)
    | _ => none
def lexLe (p q : Int × Int) : Bool := decide (p.1 < q.1) || (decide (p.1 = q.1) && decide (p.2 ≤ q.2))
def sortP (ps : List (Int × Int)) : List (Int × Int) := ps.mergeSort lexLe
def fSorted (h : MH) : List MV → Option MV
  | [v] => match seqOf h v with
    | some xs => match intsOf xs with
      | some ns => some (.lst ((sortI ns).map .int))
      | none => match listOf h v with
        | some ys => (pairsI ys).map fun ps => .lst ((sortP ps).map pairV)
        | none => none
    | none => none
  | _ => none
/-- {k: v, ..} -/
def xPairs : List (XE × XE) → SM → MH → Option (List (MK × MV) × MH)
  | [], _, h => some ([], h)
  | (a, b) :: r, s, h => match a s h with
    | none => none
    | some (x, h1) => match b s h1 with
      | none => none
      | some (y, h2) => match keyOf x with
        | none => none
        | some k => match xPairs r s h2 with
          | none => none
          | some (ps, h3) => some ((k, y) :: ps, h3)
def mergeM (kvs more : List (MK × MV)) : List (MK × MV) := more.foldl (fun acc kv => putM acc kv.1 kv.2) kvs
def fDictP (h : MH) : List MV → Option MV
  | [v] => match listOf h v with
    | some xs => (pairsK xs).map fun kvs => .dK (mergeM [] kvs)
    | none => none
  | _ => none
def xDisp (ps : List (XE × XE)) : XE := fun s h => match xPairs ps s h with
  | none => none
  | some (kvs, h1) => if kvs.length ≤ 15 then some (.dK (mergeM [] kvs), h1) else none
/-- d.update(e), both dicts -/
def xUpdate (o e : XE) : XE := fun s h => match o s h with
  | some (.ref n, h1) => match h1[n]? with
    | some (.dK _) => match e s h1 with
      | some (.dK more, h2) => match h2[n]? with
        | some (.dK kvs) => if kvs.length + more.length ≤ szLine then some (.non, h2.set n (.dK (mergeM kvs more))) else none
        | _ => none
      | _ => none
    | _ => none
  | _ => none
/-- for k in d.keys(), d in slot n, a dict that is not written again -/
def sForK (n : Nat) (g : XG) (b : XS) : XS := fun s h => match s[n]? with
  | some (some (.dK kvs)) => forGo g b (kvs.map fun kv => keyV kv.1) s h
  | some (some (.ref m)) => match h[m]? with
    | some (.dK kvs) => match forGo g b (kvs.map fun kv => keyV kv.1) s (h.set m (.lkK kvs)) with
      | some (f, s', h') => match h'[m]? with
        | some (.lkK kvs') => some (f, s', h'.set m (.dK kvs'))
        | _ => none
      | none => none
    | _ => none
  | _ => none
/-- [.. for k in d.keys()] -/
def xLcK (n : Nat) (g : XG) (c : XT) (e : XE) (own : List Nat) : XE := fun s h => match s[n]? with
  | some (some (.dK kvs)) => match lcGo g c e [] (kvs.map fun kv => keyV kv.1) (wipeM s own) h with
    | some (ys, h2) => some (.lst ys, h2)
    | none => none
  | some (some (.ref m)) => match h[m]? with
    | some (.dK kvs) => match lcGo g c e [] (kvs.map fun kv => keyV kv.1) (wipeM s own) (h.set m (.lkK kvs)) with
      | some (ys, h2) => match h2[m]? with
        | some (.lkK kvs') => some (.lst ys, h2.set m (.dK kvs'))
        | _ => none
      | none => none
    | _ => none
  | _ => none
/-- a, b, c = a list -/
def gLp (n : Nat) (g : XGs) : XG := fun v s h => match listOf h v with
  | some xs => if xs.length = n then g xs s h else none
  | none => none
/-- x is True -/
def opIsBl (_ : MH) : MV → MV → Option MV
  | .bl a, .bl b => some (.bl (decide (a = b)))
  | _, _ => none
def opNotBl (_ : MH) : MV → MV → Option MV
  | .bl a, .bl b => some (.bl (!decide (a = b)))
  | _, _ => none
/-- tuple(d.keys()) -/
def fKeysT (h : MH) (v : MV) : Option MV := (dictK h v).map fun kvs => .tup (kvs.map fun kv => keyV kv.1)
/-- t[::-1] -/
def opRevT (_ : MH) : MV → Option MV
  | .tup xs => some (.tup xs.reverse)
  | _ => none
/-- enumerate(t), a tuple -/
def enumM (k : Nat) : List MV → List MV
  | [] => []
  | x :: xs => .tup [.int (k : Nat), x] :: enumM (k + 1) xs
def iEnumT (e : XE) : XI := fun s h => match e s h with
  | some (.tup xs, h1) => some (.vals (enumM 0 xs), h1)
  | _ => none
/-- zip(xs, ys), lists of one length -/
def zipM (xs ys : List MV) : List MV := (xs.zip ys).map fun p => .tup [p.1, p.2]
def iZipL (e e2 : XE) : XI := fun s h => match e s h with
  | some (.lst xs, h1) => match e2 s h1 with
    | some (.lst ys, h2) => if xs.length = ys.length then some (.vals (zipM xs ys), h2) else none
    | _ => none
  | _ => none
/-- dict(d) -/
def fDictD (h : MH) : List MV → Option MV
  | [v] => (dictK h v).map .dK
  | _ => none
/-- an item that is sorted by ints: (i, row) or a row, one at least -/
def keyZ : MV → Option (Bool × List Int)
  | .tup [.int a, .tup zs] => (intsOf zs).map fun r => (true, a :: r)
  | .tup [.int a, .row zs] => (intsOf zs).map fun r => (true, a :: r)
  | .tup (y :: ys) => (intsOf (y :: ys)).map fun r => (false, r)
  | .row (y :: ys) => (intsOf (y :: ys)).map fun r => (false, r)
  | _ => none
def keysZ (f : Bool) : List MV → Option (List (List Int))
  | [] => some []
  | x :: xs => match keyZ x, keysZ f xs with
    | some (g, k), some ks => if g = f then some (k :: ks) else none
    | _, _ => none
/-- enumerate(xs), a list -/
def iEnumL (e : XE) : XI := fun s h => match e s h with
  | some (.lst xs, h1) => some (.vals (enumM 0 xs), h1)
  | _ => none
/-! ### sorted by a lambda -/
/-- the cells at the law's start: the tables -/
def tabs0 (n : Nat) : MH := (List.range n).map MC.tab
/-! ### what a def's function does, told to its callers: the new cells are forgotten, what was in them is told as values -/
mutual
/-- the raw value (the first) told as the second: n cells stand already; x: the cell that is told as a fresh one, if any -/
def Frz (h : MH) (n x : Nat) : MV → MV → Prop
  | u, .non => u = .non
  | u, .bl b => u = .bl b
  | u, .int i => u = .int i
  | u, .str s => u = .str s
  | u, .scr s => u = .scr s
  | u, .ref m => u = .ref m ∧ m < n
  | u, .tup ys => ∃ xs, u = .tup xs ∧ Frzs h n x xs ys
  | u, .row ys => ∃ xs, u = .row xs ∧ Frzs h n x xs ys
  | u, .lst ys => (∃ xs, u = .lst xs ∧ Frzs h n x xs ys) ∨ ∃ m xs, u = .ref m ∧ n ≤ m ∧ m ≠ x ∧ h[m]? = some (.lst xs) ∧ Frzs h n x xs ys
  | u, .dK ys => (∃ xs, u = .dK xs ∧ Frzk h n x xs ys) ∨ ∃ m xs, u = .ref m ∧ n ≤ m ∧ m ≠ x ∧ h[m]? = some (.dK xs) ∧ Frzk h n x xs ys
  | u, .dT ys => (∃ xs, u = .dT xs ∧ Frzt h n x xs ys) ∨ ∃ m xs, u = .ref m ∧ n ≤ m ∧ m ≠ x ∧ h[m]? = some (.dT xs) ∧ Frzt h n x xs ys
def Frzs (h : MH) (n x : Nat) : List MV → List MV → Prop
  | us, [] => us = []
  | us, y :: ys => ∃ u t, us = u :: t ∧ Frz h n x u y ∧ Frzs h n x t ys
def Frzk (h : MH) (n x : Nat) : List (MK × MV) → List (MK × MV) → Prop
  | us, [] => us = []
  | us, (k, y) :: ys => ∃ u t, us = (k, u) :: t ∧ Frz h n x u y ∧ Frzk h n x t ys
def Frzt (h : MH) (n x : Nat) : List (List MK × MV) → List (List MK × MV) → Prop
  | us, [] => us = []
  | us, (k, y) :: ys => ∃ u t, us = (k, u) :: t ∧ Frz h n x u y ∧ Frzt h n x t ys
end
def CFrz (h : MH) (n x : Nat) : MC → MC → Prop
  | .lst us, .lst ys => Frzs h n x us ys
  | .dK us, .dK ys => Frzk h n x us ys
  | .dT us, .dT ys => Frzt h n x us ys
  | .lkK us, .lkK ys => Frzk h n x us ys
  | .lkT us, .lkT ys => Frzt h n x us ys
  | _, _ => False
/-- the cells that stood, behind the call -/
def CelOK (h h2 h' : MH) (x : Nat) : Prop := h'.length = h.length ∧ h.length ≤ h2.length ∧ ∀ (i : Nat) (c : MC), h'[i]? = some c → (h2[i]? = some c ∧ h[i]? = some c) ∨ ∃ c2, h2[i]? = some c2 ∧ CFrz h2 h.length x c2 c
/-- g may be told as: at these arguments it hands back v and leaves the cells h' -/
def FrzOK (g : Fn) (args : List MV) (h : MH) (v : MV) (h' : MH) : Prop := ∃ v2 h2, g args h = some (v2, h2) ∧ CelOK h h2 h' h2.length ∧ Frz h2 h.length h2.length v2 v
/-- .. a fresh list or dict -/
def FrzF (g : Fn) (args : List MV) (h : MH) (v : MV) (h' : MH) : Prop := ∃ m c h2, g args h = some (.ref m, h2) ∧ h.length ≤ m ∧ h2[m]? = some c ∧ CelOK h h2 h' m ∧ match c, v with
  | .lst us, .lst ys => Frzs h2 h.length m us ys
  | .dK us, .dK ys => Frzk h2 h.length m us ys
  | .dT us, .dT ys => Frzt h2 h.length m us ys
  | _, _ => False
/-! ### told by what they do -/
mutual
/-- no cell is named -/
def plainV : MV → Bool
  | .ref _ => false
  | .tup xs => plainL xs
  | .row xs => plainL xs
  | .lst xs => plainL xs
  | .dK kvs => plainK kvs
  | .dT kvs => plainT kvs
  | _ => true
def plainL : List MV → Bool
  | [] => true
  | x :: xs => plainV x && plainL xs
def plainK : List (MK × MV) → Bool
  | [] => true
  | (_, x) :: xs => plainV x && plainK xs
def plainT : List (List MK × MV) → Bool
  | [] => true
  | (_, x) :: xs => plainV x && plainT xs
end
def plainC : MC → Bool
  | .lst xs => plainL xs
  | .dK xs => plainK xs
  | .dT xs => plainT xs
  | .lkK xs => plainK xs
  | .lkT xs => plainT xs
  | .tab _ => false
def Keeps (h h2 : MH) : Prop := h.length ≤ h2.length ∧ ∀ (i : Nat) (c : MC), i < h.length → h2[i]? = some c → h[i]? = some c ∨ plainC c = true
/-- a def that hands back a plain value -/
noncomputable def toldV (g : Fn) : Fn := open Classical in fun args h => match g args h with
  | some (v, h2) => if plainV v = true ∧ Keeps h h2 then some (v, h2.take h.length) else none
  | none => none
/-- .. a new list or dict of plain values -/
noncomputable def toldF (g : Fn) : Fn := open Classical in fun args h => match g args h with
  | some (.ref m, h2) => if h.length ≤ m ∧ Keeps h h2 then match h2[m]? with
    | some (.lst xs) => if plainL xs = true then some (.lst xs, h2.take h.length) else none
    | some (.dK xs) => if plainK xs = true then some (.dK xs, h2.take h.length) else none
    | some (.dT xs) => if plainT xs = true then some (.dT xs, h2.take h.length) else none
    | _ => none
    else none
  | _ => none
end Ew
end

section
set_option linter.all false
/-! EwSA: more operations of the small machine. -/
namespace Ew
open PySem (Str)
/-- reversed(x), a list or a tuple, walked -/
def revV : MV → Option (List MV)
  | .lst xs => some xs
  | .tup xs => some xs
  | .row xs => some xs
  | _ => none
def iRev (e : XE) : XI := fun s h => match e s h with
  | some (v, h1) => match revV v with
    | some xs => some (.vals xs.reverse, h1)
    | none => none
  | none => none
/-- xs[::-1], a list -/
def opRevLst (h : MH) (v : MV) : Option MV := (listOf h v).map fun xs => .lst xs.reverse
/-- a op b op' c -/
def xChain (f f' : MH → MV → MV → Option MV) (a b c : XE) : XE := fun s h => match a s h with
  | none => none
  | some (x, h1) => match b s h1 with
    | none => none
    | some (y, h2) => match f h2 x y with
      | some (.bl true) => match c s h2 with
        | none => none
        | some (z, h3) => match f' h3 y z with
          | none => none
          | some v => some (v, h3)
      | some (.bl false) => some (.bl false, h2)
      | _ => none
/-- d.pop(k), the key is there -/
def dropM (kvs : List (MK × MV)) (k : MK) : List (MK × MV) := kvs.filter fun kv => decide (kv.1 ≠ k)
/-- xs.index(k), a list in a cell -/
def xIndexC (o e : XE) : XE := fun s h => match o s h with
  | some (.ref n, h1) => if isLstC h1 n then match e s h1 with
    | some (y, h2) => match h2[n]? with
      | some (.lst xs) => if flatM y && xs.all flatM then match xs.findIdx? fun z => feqM z y with
        | some j => some (.int (j : Nat), h2)
        | none => none
        else none
      | _ => none
    | none => none
    else none
  | _ => none
end Ew
end

section
set_option Elab.async false
set_option linter.all false
set_option maxRecDepth 100000
set_option maxHeartbeats 4000000
/-! EwB: the hand layer's readings of the small machine EwS. -/
namespace Ew
open PySem PySem.Spec PyProof.Rows L2
/-- the tables of the defs that make lambdas: where they stand, what the lambdas are called -/
class Tabs where
  adr : Nat → Addr
  nm : Nat → Str
variable [Tabs]

/-! ### what a value of the machine stands for -/
/-- r: the cells' addresses; w: addresses that are withheld (lists that are being made) -/
def Out (r w : List Addr) (a : Addr) : Prop := a ∉ r ∧ a ∉ w
def TupAt (r w : List Addr) (H : Hp) (a : Addr) (us : List V) : Prop := Out r w a ∧ H a = some (.tup us)
/-- a tuple that has no dict -/
def RowOf (r w : List Addr) (H : Hp) (a : Addr) (us : List V) : Prop := Out r w a ∧ ∃ o : Obj, o.cls = .type "tuple" ∧ o.dict = none ∧ H a = some (.frz o (.tup us))
/-- .. or a module's tuple -/
def KRow (K : PySem.W.Frag) (a : Addr) (us : List V) : Prop := ∃ (o : Obj) (its : Array Value) (n : Nat), K.lookup a = some o ∧ o.cls = .type "tuple" ∧ o.dict = none ∧ o.data = .seq its n ∧ its.size ≤ sizeLine ∧ Vals us its.toList
def RowAt (K : PySem.W.Frag) (r w : List Addr) (H : Hp) (a : Addr) (us : List V) : Prop := RowOf r w H a us ∨ KRow K a us
/-- the script, should it stand in the written part -/
def KScr (K : PySem.W.Frag) (a : Addr) (us : List V) : Prop := ∃ (o : Obj) (its : Array Value) (n : Nat), K.lookup a = some o ∧ o.cls = .type "list" ∧ o.dict = none ∧ o.data = .seq its n ∧ its.size ≤ sizeLine ∧ Vals us its.toList
section
variable (K : PySem.W.Frag)
mutual
def VR (r w : List Addr) (H : Hp) : MV → V → Prop
  | .non, u => u = .non
  | .bl b, u => u = .bl b
  | .int i, u => u = .int i
  | .str x, u => u = .str x
  | .ref n, u => ∃ a, u = .ref a ∧ r[n]? = some a
  | .tup xs, u => ∃ a us, u = .ref a ∧ TupAt r w H a us ∧ VRs r w H xs us
  | .row xs, u => ∃ a us, u = .ref a ∧ RowAt K r w H a us ∧ VRs r w H xs us
  | .lst xs, u => ∃ a us, u = .ref a ∧ Out r w a ∧ H a = some (.lst us) ∧ VRs r w H xs us
  | .scr xs, u => ∃ a, u = .ref a ∧ ((Out r w a ∧ Rd H a (.lst (xs.map V.int))) ∨ KScr K a (xs.map V.int))
  | .dK kvs, u => ∃ a us, u = .ref a ∧ Out r w a ∧ Rd H a (.dK us) ∧ VRk r w H kvs us
  | .dT kvs, u => ∃ a us, u = .ref a ∧ Out r w a ∧ Rd H a (.dT us) ∧ VRt r w H kvs us
def VRs (r w : List Addr) (H : Hp) : List MV → List V → Prop
  | [], us => us = []
  | x :: xs, us => ∃ u t, us = u :: t ∧ VR r w H x u ∧ VRs r w H xs t
def VRk (r w : List Addr) (H : Hp) : List (MK × MV) → List (Key × V) → Prop
  | [], us => us = []
  | (k, x) :: xs, us => ∃ u t, us = (k, u) :: t ∧ VR r w H x u ∧ VRk r w H xs t
def VRt (r w : List Addr) (H : Hp) : List (List MK × MV) → List (List Key × V) → Prop
  | [], us => us = []
  | (k, x) :: xs, us => ∃ u t, us = (k, u) :: t ∧ VR r w H x u ∧ VRt r w H xs t
end
/-- a table: each code object that it tells bears the name q -/
def TabC (r w : List Addr) (H : Hp) (a : Addr) (q : Str) : Prop := ∃ ps : Array Value, H a = some (.tbl ps) ∧ TriplesOk ps.toList ∧ ∀ (pos : Pos) (cv : Value), codeAmong pos ps.toList = some cv → ∃ c, cv = .ref c ∧ Out r w c ∧ H c = some (LamX.CodeO c q)
/-- what stands in a cell -/
def CRel (r w : List Addr) (H : Hp) (a : Addr) : MC → Prop
  | .lst xs => ∃ us, H a = some (.lst us) ∧ VRs K r w H xs us
  | .dK kvs => ∃ us, H a = some (.dK us) ∧ VRk K r w H kvs us
  | .dT kvs => ∃ us, H a = some (.dT us) ∧ VRt K r w H kvs us
  | .lkK kvs => ∃ o us, H a = some (.frz o (.dK us)) ∧ VRk K r w H kvs us
  | .lkT kvs => ∃ o us, H a = some (.frz o (.dT us)) ∧ VRt K r w H kvs us
  | .tab n => a = Tabs.adr n ∧ TabC r w H a (Tabs.nm n)
structure Rel (r w : List Addr) (h : MH) (H : Hp) : Prop where
  len : r.length = h.length
  nd : r.Nodup
  at_ : ∀ (n : Nat) (a : Addr) (c : MC), r[n]? = some a → h[n]? = some c → CRel K r w H a c
  wh : ∀ d ∈ w, d ∉ r ∧ ∃ o, H d = some o ∧ ∀ us, o ≠ HO.tup us
/-- the slots -/
def SR (r w : List Addr) (H : Hp) (s : SM) (z : L2.St) : Prop := s.length = z.length ∧ ∀ (i : Nat) (v : MV), s[i]? = some (some v) → ∃ u, z[i]? = some (some u) ∧ VR K r w H v u
end
/-- o still stands at a, up to a dict's lock -/
def Kp (H' : Hp) (a : Addr) (o : HO) : Prop := H' a = some o ∨ (∃ od kvs, o = .dK kvs ∧ H' a = some (.frz od (.dK kvs))) ∨ (∃ od kvs, o = .frz od (.dK kvs) ∧ H' a = some (.dK kvs)) ∨
  (∃ od kvs, o = .dT kvs ∧ H' a = some (.frz od (.dT kvs))) ∨ (∃ od kvs, o = .frz od (.dT kvs) ∧ H' a = some (.dT kvs))
theorem Kp.lst {H' : Hp} {a : Addr} {xs : List V} (h : Kp H' a (.lst xs)) : H' a = some (.lst xs) := by
  rcases h with h | ⟨_, _, e, _⟩ | ⟨_, _, e, _⟩ | ⟨_, _, e, _⟩ | ⟨_, _, e, _⟩
  · exact h
  all_goals cases e
theorem Kp.tup {H' : Hp} {a : Addr} {xs : List V} (h : Kp H' a (.tup xs)) : H' a = some (.tup xs) := by
  rcases h with h | ⟨_, _, e, _⟩ | ⟨_, _, e, _⟩ | ⟨_, _, e, _⟩ | ⟨_, _, e, _⟩
  · exact h
  all_goals cases e
theorem Kp.row {H' : Hp} {a : Addr} {o : Obj} {xs : List V} (h : Kp H' a (.frz o (.tup xs))) : H' a = some (.frz o (.tup xs)) := by
  rcases h with h | ⟨_, _, e, _⟩ | ⟨_, _, e, _⟩ | ⟨_, _, e, _⟩ | ⟨_, _, e, _⟩
  · exact h
  all_goals cases e
theorem Kp.ext {H' : Hp} {a : Addr} {f : Heap → Prop} (h : Kp H' a (.ext f)) : H' a = some (.ext f) := by
  rcases h with h | ⟨_, _, e, _⟩ | ⟨_, _, e, _⟩ | ⟨_, _, e, _⟩ | ⟨_, _, e, _⟩
  · exact h
  all_goals cases e
theorem Kp.scr {H' : Hp} {a : Addr} {o : Obj} {xs : List V} (h : Kp H' a (.frz o (.lst xs))) : H' a = some (.frz o (.lst xs)) := by
  rcases h with h | ⟨_, _, e, _⟩ | ⟨_, _, e, _⟩ | ⟨_, _, e, _⟩ | ⟨_, _, e, _⟩
  · exact h
  all_goals cases e
theorem Kp.dK {H H' : Hp} {a : Addr} {kvs : List (Key × V)} (h : ∀ o, H a = some o → Kp H' a o) (r : Rd H a (.dK kvs)) : Rd H' a (.dK kvs) := by
  rcases r with r | ⟨o, r⟩
  · rcases h _ r with h | ⟨od, _, e, h⟩ | ⟨_, _, e, _⟩ | ⟨_, _, e, _⟩ | ⟨_, _, e, _⟩
    · exact .inl h
    · cases e; exact .inr ⟨od, h⟩
    all_goals cases e
  · rcases h _ r with h | ⟨od, _, e, h⟩ | ⟨_, _, e, h⟩ | ⟨_, _, e, _⟩ | ⟨_, _, e, _⟩
    · exact .inr ⟨o, h⟩
    · cases e
    · cases e; exact .inl h
    all_goals cases e
theorem Kp.dT {H H' : Hp} {a : Addr} {kvs : List (List Key × V)} (h : ∀ o, H a = some o → Kp H' a o) (r : Rd H a (.dT kvs)) : Rd H' a (.dT kvs) := by
  rcases r with r | ⟨o, r⟩
  · rcases h _ r with h | ⟨_, _, e, _⟩ | ⟨_, _, e, _⟩ | ⟨od, _, e, h⟩ | ⟨_, _, e, _⟩
    · exact .inl h
    · cases e
    · cases e
    · cases e; exact .inr ⟨od, h⟩
    · cases e
  · rcases h _ r with h | ⟨_, _, e, _⟩ | ⟨_, _, e, _⟩ | ⟨_, _, e, _⟩ | ⟨_, _, e, h⟩
    · exact .inr ⟨o, h⟩
    · cases e
    · cases e
    · cases e
    · cases e; exact .inl h
/-- what values lean on is kept -/
structure Stp (r w : List Addr) (H : Hp) (r' w' : List Addr) (H' : Hp) : Prop where
  ix : ∀ (n : Nat) (a : Addr), r[n]? = some a → r'[n]? = some a
  keep : ∀ a o, Out r w a → H a = some o → Out r' w' a ∧ Kp H' a o
/-- what is kept from one state to a later one: the cells get more, by new addresses; what is no cell stays -/
structure Fwd (r : List Addr) (H : Hp) (r' : List Addr) (H' : Hp) : Prop where
  ext : ∃ ps, r' = r ++ ps ∧ ∀ p ∈ ps, H p = none
  keep : ∀ a o, a ∉ r → H a = some o → H' a = some o
  frz : ∀ a o u, H a = some (.frz o u) → H' a = some (.frz o u)
theorem Fwd.refl (r : List Addr) (H : Hp) : Fwd r H r H := ⟨⟨[], by simp, fun _ h => nomatch h⟩, fun _ _ _ h => h, fun _ _ _ h => h⟩
theorem Fwd.nin {r r' : List Addr} {H H' : Hp} (F : Fwd r H r' H') {a : Addr} {o : HO} (h : a ∉ r) (e : H a = some o) : a ∉ r' := by
  obtain ⟨ps, rfl, hp⟩ := F.ext
  intro hm
  rcases List.mem_append.mp hm with hm | hm
  · exact h hm
  · rw [hp a hm] at e; cases e
theorem Fwd.at_ {r r' : List Addr} {H H' : Hp} (F : Fwd r H r' H') {n : Nat} {a : Addr} (h : r[n]? = some a) : r'[n]? = some a := by
  obtain ⟨ps, rfl, hp⟩ := F.ext
  rw [List.getElem?_append_left (by have := (List.getElem?_eq_some_iff.mp h).1; exact this)]
  exact h
theorem Fwd.stp {r r' w : List Addr} {H H' : Hp} (F : Fwd r H r' H') : Stp r w H r' w H' := ⟨fun n a h => F.at_ h, fun a o n e => ⟨⟨F.nin n.1 e, n.2⟩, .inl (F.keep a o n.1 e)⟩⟩
section
variable {K : PySem.W.Frag} {r r' r2 w w' : List Addr} {H H' H2 : Hp}
theorem TupAt.map (F : Stp r w H r' w' H') {a : Addr} {us : List V} (h : TupAt r w H a us) : TupAt r' w' H' a us := ⟨(F.keep _ _ h.1 h.2).1, (F.keep _ _ h.1 h.2).2.tup⟩
theorem RowAt.map (F : Stp r w H r' w' H') {a : Addr} {us : List V} (h : RowAt K r w H a us) : RowAt K r' w' H' a us := by
  rcases h with h | h
  · obtain ⟨n, o, c, d, h⟩ := h
    exact .inl ⟨(F.keep _ _ n h).1, o, c, d, (F.keep _ _ n h).2.row⟩
  · exact .inr h
theorem RowAt.sq {K : PySem.W.Frag} {a : Addr} {us : List V} (h : RowAt K r w H a us) : SqT K H a us := by
  rcases h with h | ⟨o, its, n, h1, h2, _, h3⟩
  · obtain ⟨_, o, _, _, h⟩ := h
    exact .inl (.inr ⟨o, h⟩)
  · exact .inr ⟨o, its, n, h1, h2, h3⟩
theorem TupAt.sq {K : PySem.W.Frag} {a : Addr} {us : List V} (h : TupAt r w H a us) : SqT K H a us := .inl (.inl h.2)
mutual
theorem VR.map (F : Stp r w H r' w' H') : ∀ (v : MV) (u : V), VR K r w H v u → VR K r' w' H' v u
  | .non, u, h => by simpa [VR] using h
  | .bl b, u, h => by simpa [VR] using h
  | .int i, u, h => by simpa [VR] using h
  | .str x, u, h => by simpa [VR] using h
  | .ref n, u, h => by
    simp only [VR] at h ⊢
    obtain ⟨a, e, h⟩ := h
    exact ⟨a, e, F.ix _ _ h⟩
  | .tup xs, u, h => by
    simp only [VR] at h ⊢
    obtain ⟨a, us, e, h, q⟩ := h
    exact ⟨a, us, e, h.map F, VRs.map F xs us q⟩
  | .row xs, u, h => by
    simp only [VR] at h ⊢
    obtain ⟨a, us, e, h, q⟩ := h
    exact ⟨a, us, e, h.map F, VRs.map F xs us q⟩
  | .lst xs, u, h => by
    simp only [VR] at h ⊢
    obtain ⟨a, us, e, n, h, q⟩ := h
    exact ⟨a, us, e, (F.keep _ _ n h).1, (F.keep _ _ n h).2.lst, VRs.map F xs us q⟩
  | .scr xs, u, h => by
    simp only [VR] at h ⊢
    obtain ⟨a, e, h⟩ := h
    rcases h with ⟨n, h | ⟨o, h⟩⟩ | h
    · exact ⟨a, e, .inl ⟨(F.keep _ _ n h).1, .inl (F.keep _ _ n h).2.lst⟩⟩
    · exact ⟨a, e, .inl ⟨(F.keep _ _ n h).1, .inr ⟨o, (F.keep _ _ n h).2.scr⟩⟩⟩
    · exact ⟨a, e, .inr h⟩
  | .dK xs, u, h => by
    simp only [VR] at h ⊢
    obtain ⟨a, us, e, n, h, q⟩ := h
    have no : Out r' w' a := by
      rcases h with h | ⟨o, h⟩
      · exact (F.keep _ _ n h).1
      · exact (F.keep _ _ n h).1
    exact ⟨a, us, e, no, Kp.dK (fun o z => (F.keep _ _ n z).2) h, VRk.map F xs us q⟩
  | .dT xs, u, h => by
    simp only [VR] at h ⊢
    obtain ⟨a, us, e, n, h, q⟩ := h
    have no : Out r' w' a := by
      rcases h with h | ⟨o, h⟩
      · exact (F.keep _ _ n h).1
      · exact (F.keep _ _ n h).1
    exact ⟨a, us, e, no, Kp.dT (fun o z => (F.keep _ _ n z).2) h, VRt.map F xs us q⟩
theorem VRs.map (F : Stp r w H r' w' H') : ∀ (v : List MV) (u : List V), VRs K r w H v u → VRs K r' w' H' v u
  | [], u, h => by simpa [VRs] using h
  | x :: xs, u, h => by
    simp only [VRs] at h ⊢
    obtain ⟨a, t, e, h, q⟩ := h
    exact ⟨a, t, e, VR.map F x a h, VRs.map F xs t q⟩
theorem VRk.map (F : Stp r w H r' w' H') : ∀ (v : List (MK × MV)) (u : List (Key × V)), VRk K r w H v u → VRk K r' w' H' v u
  | [], u, h => by simpa [VRk] using h
  | (k, x) :: xs, u, h => by
    simp only [VRk] at h ⊢
    obtain ⟨a, t, e, h, q⟩ := h
    exact ⟨a, t, e, VR.map F x a h, VRk.map F xs t q⟩
theorem VRt.map (F : Stp r w H r' w' H') : ∀ (v : List (List MK × MV)) (u : List (List Key × V)), VRt K r w H v u → VRt K r' w' H' v u
  | [], u, h => by simpa [VRt] using h
  | (k, x) :: xs, u, h => by
    simp only [VRt] at h ⊢
    obtain ⟨a, t, e, h, q⟩ := h
    exact ⟨a, t, e, VR.map F x a h, VRt.map F xs t q⟩
end
theorem VR.fwd (F : Fwd r H r' H') (v : MV) (u : V) (h : VR K r w H v u) : VR K r' w H' v u := VR.map F.stp v u h
theorem VRs.fwd (F : Fwd r H r' H') (v : List MV) (u : List V) (h : VRs K r w H v u) : VRs K r' w H' v u := VRs.map F.stp v u h
theorem TabC.map (F : Stp r w H r' w' H') {a : Addr} {q : Str} (e : H' a = H a) (h : TabC r w H a q) : TabC r' w' H' a q := by
  obtain ⟨ps, h1, h2, h3⟩ := h
  refine ⟨ps, e.trans h1, h2, fun pos cv hc => ?_⟩
  obtain ⟨c, rfl, n, hc⟩ := h3 pos cv hc
  exact ⟨c, rfl, (F.keep _ _ n hc).1, (F.keep _ _ n hc).2.ext⟩
theorem CRel.map (F : Stp r w H r' w' H') {a : Addr} {c : MC} (e : H' a = H a) (h : CRel K r w H a c) : CRel K r' w' H' a c := by
  cases c <;> simp only [CRel] at h ⊢
  · obtain ⟨us, h, q⟩ := h; exact ⟨us, e.trans h, VRs.map F _ _ q⟩
  · obtain ⟨us, h, q⟩ := h; exact ⟨us, e.trans h, VRk.map F _ _ q⟩
  · obtain ⟨us, h, q⟩ := h; exact ⟨us, e.trans h, VRt.map F _ _ q⟩
  · obtain ⟨o, us, h, q⟩ := h; exact ⟨o, us, e.trans h, VRk.map F _ _ q⟩
  · obtain ⟨o, us, h, q⟩ := h; exact ⟨o, us, e.trans h, VRt.map F _ _ q⟩
  · exact ⟨h.1, h.2.map F e⟩
theorem CRel.there {a : Addr} {c : MC} (h : CRel K r w H a c) : ∃ o, H a = some o := by
  cases c <;> simp only [CRel] at h
  · obtain ⟨us, z, _⟩ := h; exact ⟨_, z⟩
  · obtain ⟨us, z, _⟩ := h; exact ⟨_, z⟩
  · obtain ⟨us, z, _⟩ := h; exact ⟨_, z⟩
  · obtain ⟨o, us, z, _⟩ := h; exact ⟨_, z⟩
  · obtain ⟨o, us, z, _⟩ := h; exact ⟨_, z⟩
  · obtain ⟨_, ps, z, _⟩ := h; exact ⟨_, z⟩
theorem CRel.ntup {a : Addr} {c : MC} (h : CRel K r w H a c) : ∃ o, H a = some o ∧ ∀ us, o ≠ HO.tup us := by
  cases c <;> simp only [CRel] at h
  · obtain ⟨us, z, _⟩ := h; exact ⟨_, z, fun _ e => by cases e⟩
  · obtain ⟨us, z, _⟩ := h; exact ⟨_, z, fun _ e => by cases e⟩
  · obtain ⟨us, z, _⟩ := h; exact ⟨_, z, fun _ e => by cases e⟩
  · obtain ⟨o, us, z, _⟩ := h; exact ⟨_, z, fun _ e => by cases e⟩
  · obtain ⟨o, us, z, _⟩ := h; exact ⟨_, z, fun _ e => by cases e⟩
  · obtain ⟨_, ps, z, _⟩ := h; exact ⟨_, z, fun _ e => by cases e⟩
theorem SR.map (F : Stp r w H r' w' H') {s : SM} {z : L2.St} (h : SR K r w H s z) : SR K r' w' H' s z :=
  ⟨h.1, fun i v e => let ⟨u, e1, e2⟩ := h.2 i v e; ⟨u, e1, VR.map F v u e2⟩⟩
theorem SR.fwd (F : Fwd r H r' H') {s : SM} {z : L2.St} (h : SR K r w H s z) : SR K r' w H' s z := h.map F.stp
theorem Rel.there {h : MH} (R : Rel K r w h H) {a : Addr} (hm : a ∈ r) : ∃ o, H a = some o := by
  obtain ⟨n, hn⟩ := List.getElem?_of_mem hm
  have hl : n < h.length := by rw [← R.len]; exact (List.getElem?_eq_some_iff.mp hn).1
  exact (R.at_ n a h[n] hn (List.getElem?_eq_getElem hl)).there
theorem Rel.nin {h : MH} (R : Rel K r w h H) {p : Addr} (hp : H p = none) : p ∉ r := fun hm => by
  obtain ⟨u, e⟩ := R.there hm
  rw [hp] at e; cases e
theorem Rel.ninw {h : MH} (R : Rel K r w h H) {p : Addr} (hp : H p = none) : p ∉ w := fun hm => by
  obtain ⟨_, u, e, _⟩ := R.wh p hm
  rw [hp] at e; cases e
theorem Fwd.trans (F : Fwd r H r' H') (G : Fwd r' H' r2 H2) (hr : ∀ p, H' p = none → H p = none) : Fwd r H r2 H2 := by
  obtain ⟨ps, rfl, hp⟩ := F.ext
  obtain ⟨qs, rfl, hq⟩ := G.ext
  refine ⟨⟨ps ++ qs, by simp, fun p hm => ?_⟩, fun a o n e => G.keep a o (F.nin n e) (F.keep a o n e), fun a o u e => G.frz a o u (F.frz a o u e)⟩
  rcases List.mem_append.mp hm with hm | hm
  · exact hp p hm
  · exact hr p (hq p hm)
/-- where the cells stand, what is free now was free -/
theorem Fwd.free {h' : MH} (F : Fwd r H r' H') (R' : Rel K r' w h' H') (p : Addr) (e : H' p = none) : H p = none := by
  cases q : H p with
  | none => rfl
  | some o =>
    by_cases hm : p ∈ r
    · obtain ⟨n, hn⟩ := List.getElem?_of_mem hm
      obtain ⟨u, z⟩ := R'.there (List.mem_of_getElem? (F.at_ hn))
      rw [e] at z; cases z
    · rw [F.keep p o hm q] at e; cases e
theorem Fwd.tr {h' : MH} (F : Fwd r H r' H') (R' : Rel K r' w h' H') (G : Fwd r' H' r2 H2) : Fwd r H r2 H2 := F.trans G (F.free R')
/-- a new object, no cell -/
theorem Fwd.new (r : List Addr) {p : Addr} {o : HO} (hp : H p = none) : Fwd r H r (upd H p o) :=
  ⟨⟨[], by simp, fun _ h => nomatch h⟩, fun a u _ e => by rw [upd_ne (ne_of_none e hp)]; exact e, fun a o u e => by rw [upd_ne (ne_of_none e hp)]; exact e⟩
theorem Rel.new {h : MH} (R : Rel K r w h H) {p : Addr} {o : HO} (hp : H p = none) : Rel K r w h (upd H p o) :=
  ⟨R.len, R.nd, fun n a c hn hc => (R.at_ n a c hn hc).map (Fwd.new r hp).stp (by
    obtain ⟨u, e⟩ := R.there (List.mem_of_getElem? hn)
    exact upd_ne (ne_of_none e hp)), fun d hd => by
    obtain ⟨n, u, e, nt⟩ := R.wh d hd
    exact ⟨n, u, (upd_ne (ne_of_none e hp)).trans e, nt⟩⟩
/-- a new object that is withheld -/
theorem Stp.hold {h : MH} (R : Rel K r w h H) {p : Addr} {o : HO} (hp : H p = none) : Stp r w H r (p :: w) (upd H p o) :=
  ⟨fun _ _ h => h, fun a u n e => by
    have ne : a ≠ p := ne_of_none e hp
    exact ⟨⟨n.1, fun hm => by rcases List.mem_cons.mp hm with z | z; exact ne z; exact n.2 z⟩, .inl ((upd_ne ne).trans e)⟩⟩
theorem Rel.hold {h : MH} (R : Rel K r w h H) {p : Addr} {o : HO} (hp : H p = none) (nt : ∀ us, o ≠ HO.tup us := by intro _ z; cases z) : Rel K r (p :: w) h (upd H p o) :=
  ⟨R.len, R.nd, fun n a c hn hc => (R.at_ n a c hn hc).map (Stp.hold R hp) (by
    obtain ⟨u, e⟩ := R.there (List.mem_of_getElem? hn)
    exact upd_ne (ne_of_none e hp)), fun d hd => by
    rcases List.mem_cons.mp hd with rfl | hd
    · exact ⟨R.nin hp, o, upd_same, nt⟩
    · obtain ⟨n, u, e, nt⟩ := R.wh d hd
      exact ⟨n, u, (upd_ne (ne_of_none e hp)).trans e, nt⟩⟩
/-- what was withheld is let go -/
theorem Stp.drop {p : Addr} : Stp r (p :: w) H r w H := ⟨fun _ _ h => h, fun a o n e => ⟨⟨n.1, fun z => n.2 (List.mem_cons_of_mem _ z)⟩, .inl e⟩⟩
theorem Rel.drop {h : MH} {p : Addr} (R : Rel K r (p :: w) h H) : Rel K r w h H :=
  ⟨R.len, R.nd, fun n a c hn hc => (R.at_ n a c hn hc).map Stp.drop rfl, fun d hd => R.wh d (List.mem_cons_of_mem _ hd)⟩
/-- what was withheld becomes a cell -/
theorem Stp.cell {p : Addr} : Stp r (p :: w) H (r ++ [p]) w H :=
  ⟨fun n a h => by rw [List.getElem?_append_left (List.getElem?_eq_some_iff.mp h).1]; exact h, fun a o n e => ⟨⟨fun hm => by
    rcases List.mem_append.mp hm with z | z
    · exact n.1 z
    · exact n.2 (by rw [List.mem_singleton.mp z]; exact List.mem_cons_self), fun z => n.2 (List.mem_cons_of_mem _ z)⟩, .inl e⟩⟩
theorem Rel.cell {h : MH} {p : Addr} {c : MC} (R : Rel K r (p :: w) h H) (np : p ∉ w) (hc : CRel K r (p :: w) H p c) : Rel K (r ++ [p]) w (h ++ [c]) H := by
  have hpr : p ∉ r := (R.wh p List.mem_cons_self).1
  refine ⟨by simp [R.len], ?_, fun n a c' hn hc' => ?_, fun d hd => ?_⟩
  · exact List.nodup_append.mpr ⟨R.nd, by simp, fun a ha b hb => by rw [List.mem_singleton.mp hb]; rintro rfl; exact hpr ha⟩
  · by_cases hl : n < r.length
    · rw [List.getElem?_append_left hl] at hn
      rw [List.getElem?_append_left (by rw [← R.len]; exact hl)] at hc'
      exact (R.at_ n a c' hn hc').map Stp.cell rfl
    · have e1 : n = r.length := by
        have := (List.getElem?_eq_some_iff.mp hn).1
        rw [List.length_append] at this
        simp at this
        omega
      subst e1
      rw [List.getElem?_append_right (Nat.le_refl _)] at hn
      rw [R.len, List.getElem?_append_right (Nat.le_refl _)] at hc'
      simp at hn hc'
      subst hn hc'
      exact hc.map Stp.cell rfl
  · obtain ⟨n, u⟩ := R.wh d (List.mem_cons_of_mem _ hd)
    refine ⟨fun hm => ?_, u⟩
    rcases List.mem_append.mp hm with z | z
    · exact n z
    · exact np (by rw [← List.mem_singleton.mp z]; exact hd)
/-- a cell is written -/
theorem Fwd.put {n : Nat} {a : Addr} (hn : r[n]? = some a) (o : HO) (nf : ∀ ob u, H a ≠ some (.frz ob u)) : Fwd r H r (upd H a o) :=
  ⟨⟨[], by simp, fun _ h => nomatch h⟩, fun b u nb e => by
    rw [upd_ne (fun z => nb (by rw [z]; exact List.mem_of_getElem? hn))]; exact e, fun b ob u e => by
    rw [upd_ne (fun z => nf ob u (by rw [← z]; exact e))]; exact e⟩
theorem Stp.put {n : Nat} {a : Addr} (hn : r[n]? = some a) (o : HO) : Stp r w H r w (upd H a o) :=
  ⟨fun _ _ h => h, fun b u nb e => ⟨nb, .inl (by rw [upd_ne (fun z => nb.1 (by rw [z]; exact List.mem_of_getElem? hn))]; exact e)⟩⟩
theorem Rel.put {h : MH} (R : Rel K r w h H) {n : Nat} {a : Addr} {o : HO} {c : MC} (hn : r[n]? = some a) (hc : CRel K r w (upd H a o) a c) : Rel K r w (h.set n c) (upd H a o) := by
  refine ⟨by simp [R.len], R.nd, fun m b c' hm hc' => ?_, fun d hd => ?_⟩
  · by_cases e : m = n
    · subst e
      rw [hn] at hm
      have hl : m < h.length := by rw [← R.len]; exact (List.getElem?_eq_some_iff.mp hn).1
      rw [List.getElem?_set_self hl] at hc'
      cases hm; cases hc'
      exact hc
    · rw [List.getElem?_set_ne (Ne.symm e)] at hc'
      refine (R.at_ m b c' hm hc').map (Stp.put hn o) (upd_ne fun z => e ?_)
      subst z
      exact (List.getElem?_inj (List.getElem?_eq_some_iff.mp hm).1 R.nd).mp (hm.trans hn.symm)
  · obtain ⟨n', u, e, nt⟩ := R.wh d hd
    exact ⟨n', u, (upd_ne fun z => n' (by rw [z]; exact List.mem_of_getElem? hn)).trans e, nt⟩
theorem VRs.length : ∀ {xs : List MV} {us : List V}, VRs K r w H xs us → xs.length = us.length
  | [], us, h => by simp only [VRs] at h; subst h; rfl
  | x :: xs, us, h => by
    simp only [VRs] at h
    obtain ⟨u, t, rfl, _, q⟩ := h
    simp [VRs.length q]
theorem VRs.get : ∀ {xs : List MV} {us : List V} {i : Nat} {x : MV}, VRs K r w H xs us → xs[i]? = some x → ∃ u, us[i]? = some u ∧ VR K r w H x u
  | [], us, i, x, h, e => by simp at e
  | y :: xs, us, 0, x, h, e => by
    simp only [VRs] at h
    obtain ⟨u, t, rfl, q, _⟩ := h
    simp at e; subst e
    exact ⟨u, rfl, q⟩
  | y :: xs, us, i + 1, x, h, e => by
    simp only [VRs] at h
    obtain ⟨u, t, rfl, _, q⟩ := h
    obtain ⟨w, e1, e2⟩ := VRs.get (i := i) q (by simpa using e)
    exact ⟨w, by simpa using e1, e2⟩
theorem VRs.back : ∀ {xs : List MV} {us : List V} {i : Nat} {u : V}, VRs K r w H xs us → us[i]? = some u → ∃ x, xs[i]? = some x ∧ VR K r w H x u
  | [], us, i, x, h, e => by simp only [VRs] at h; subst h; simp at e
  | y :: xs, us, 0, x, h, e => by
    simp only [VRs] at h
    obtain ⟨u, t, rfl, q, _⟩ := h
    simp at e; subst e
    exact ⟨y, rfl, q⟩
  | y :: xs, us, i + 1, x, h, e => by
    simp only [VRs] at h
    obtain ⟨u, t, rfl, _, q⟩ := h
    obtain ⟨w, e1, e2⟩ := VRs.back (i := i) q (by simpa using e)
    exact ⟨w, by simpa using e1, e2⟩
theorem VRs.append : ∀ {xs ys : List MV} {us ws : List V}, VRs K r w H xs us → VRs K r w H ys ws → VRs K r w H (xs ++ ys) (us ++ ws)
  | [], ys, us, ws, h, q => by simp only [VRs] at h; subst h; exact q
  | x :: xs, ys, us, ws, h, q => by
    simp only [VRs] at h
    obtain ⟨u, t, rfl, h1, h2⟩ := h
    simp only [List.cons_append, VRs]
    exact ⟨u, t ++ ws, rfl, h1, VRs.append h2 q⟩
theorem VRs.one {x : MV} {u : V} (h : VR K r w H x u) : VRs K r w H [x] [u] := by
  simp only [VRs]
  exact ⟨u, [], rfl, h, rfl⟩
theorem VRs.drop : ∀ {xs : List MV} {us : List V} (n : Nat), VRs K r w H xs us → VRs K r w H (xs.drop n) (us.drop n)
  | _, _, 0, h => h
  | [], us, n + 1, h => by simp only [VRs] at h; subst h; simp [VRs]
  | x :: xs, us, n + 1, h => by
    simp only [VRs] at h
    obtain ⟨u, t, rfl, _, q⟩ := h
    exact VRs.drop n q
theorem VRs.take : ∀ {xs : List MV} {us : List V} (n : Nat), VRs K r w H xs us → VRs K r w H (xs.take n) (us.take n)
  | _, _, 0, h => by simp [VRs]
  | [], us, n + 1, h => by simp only [VRs] at h; subst h; simp [VRs]
  | x :: xs, us, n + 1, h => by
    simp only [VRs] at h
    obtain ⟨u, t, rfl, h1, q⟩ := h
    simp only [List.take_succ_cons, VRs]
    exact ⟨u, t.take n, rfl, h1, VRs.take n q⟩
theorem VRs.eraseIdx : ∀ {xs : List MV} {us : List V} (n : Nat), VRs K r w H xs us → VRs K r w H (xs.eraseIdx n) (us.eraseIdx n)
  | [], us, n, h => by simp only [VRs] at h; subst h; simp [VRs]
  | x :: xs, us, 0, h => by
    simp only [VRs] at h
    obtain ⟨u, t, rfl, _, q⟩ := h
    simpa using q
  | x :: xs, us, n + 1, h => by
    simp only [VRs] at h
    obtain ⟨u, t, rfl, h1, q⟩ := h
    simp only [List.eraseIdx_cons_succ, VRs]
    exact ⟨u, t.eraseIdx n, rfl, h1, VRs.eraseIdx n q⟩
theorem VRs.set : ∀ {xs : List MV} {us : List V} (n : Nat) {x : MV} {u : V}, VRs K r w H xs us → VR K r w H x u → VRs K r w H (xs.set n x) (us.set n u)
  | [], us, n, _, _, h, _ => by simp only [VRs] at h; subst h; simp [VRs]
  | y :: xs, us, 0, x, u, h, hx => by
    simp only [VRs] at h
    obtain ⟨w, t, rfl, _, q⟩ := h
    simp only [List.set_cons_zero, VRs]
    exact ⟨u, t, rfl, hx, q⟩
  | y :: xs, us, n + 1, x, u, h, hx => by
    simp only [VRs] at h
    obtain ⟨w, t, rfl, h1, q⟩ := h
    simp only [List.set_cons_succ, VRs]
    exact ⟨w, t.set n u, rfl, h1, VRs.set n q hx⟩
theorem VRs.dropLast {xs : List MV} {us : List V} (h : VRs K r w H xs us) : VRs K r w H xs.dropLast us.dropLast := by
  rw [List.dropLast_eq_take, List.dropLast_eq_take, ← VRs.length h]
  exact VRs.take _ h
theorem VRs.ints : ∀ (ns : List Int), VRs K r w H (ns.map MV.int) (ns.map V.int)
  | [] => by simp [VRs]
  | n :: ns => by
    simp only [List.map_cons, VRs]
    exact ⟨_, _, rfl, by simp [VR], VRs.ints ns⟩
theorem VRs.at_ {xs : List MV} {us : List V} {i : Int} {x : MV} (h : VRs K r w H xs us) (e : atM xs i = some x) : ∃ u, atI us i = some u ∧ VR K r w H x u := by
  unfold atM at e
  cases q : ixM xs.length i with
  | none => simp [q] at e
  | some j =>
    simp only [q, Option.bind_some] at e
    obtain ⟨u, e1, e2⟩ := VRs.get h e
    refine ⟨u, ?_, e2⟩
    unfold atI
    rw [← VRs.length h]
    show (ixM xs.length i).bind _ = _
    rw [q]
    exact e1
theorem VRk.length : ∀ {xs : List (MK × MV)} {us : List (Key × V)}, VRk K r w H xs us → xs.length = us.length
  | [], us, h => by simp only [VRk] at h; subst h; rfl
  | (k, x) :: xs, us, h => by
    simp only [VRk] at h
    obtain ⟨u, t, rfl, _, q⟩ := h
    simp [VRk.length q]
theorem VRt.length : ∀ {xs : List (List MK × MV)} {us : List (List Key × V)}, VRt K r w H xs us → xs.length = us.length
  | [], us, h => by simp only [VRt] at h; subst h; rfl
  | (k, x) :: xs, us, h => by
    simp only [VRt] at h
    obtain ⟨u, t, rfl, _, q⟩ := h
    simp [VRt.length q]
theorem VRk.keys : ∀ {xs : List (MK × MV)} {us : List (Key × V)}, VRk K r w H xs us → us.map (·.1) = xs.map (·.1)
  | [], us, h => by simp only [VRk] at h; subst h; rfl
  | (k, x) :: xs, us, h => by
    simp only [VRk] at h
    obtain ⟨u, t, rfl, _, q⟩ := h
    simp [VRk.keys q]
theorem VRt.keys : ∀ {xs : List (List MK × MV)} {us : List (List Key × V)}, VRt K r w H xs us → us.map (·.1) = xs.map (·.1)
  | [], us, h => by simp only [VRt] at h; subst h; rfl
  | (k, x) :: xs, us, h => by
    simp only [VRt] at h
    obtain ⟨u, t, rfl, _, q⟩ := h
    simp [VRt.keys q]
/-- what a dict has at a key -/
theorem VRk.get (k : MK) : ∀ {xs : List (MK × MV)} {us : List (Key × V)}, VRk K r w H xs us → (getK xs k = none ∧ valV us k = none) ∨ ∃ x u, getK xs k = some x ∧ valV us k = some u ∧ VR K r w H x u
  | [], us, h => by simp only [VRk] at h; subst h; exact .inl ⟨rfl, rfl⟩
  | (k', x) :: xs, us, h => by
    simp only [VRk] at h
    obtain ⟨u, t, rfl, q1, q⟩ := h
    by_cases e : k' = k
    · subst e
      exact .inr ⟨x, u, by simp [getK], by simp [valV], q1⟩
    · have ih := VRk.get k q
      have e1 : getK ((k', x) :: xs) k = getK xs k := by simp [getK, List.find?_cons, e]
      have e2 : valV ((k', u) :: t) k = valV t k := by simp [valV, List.find?_cons, e]
      rw [e1, e2]
      exact ih
theorem VRt.get (k : List MK) : ∀ {xs : List (List MK × MV)} {us : List (List Key × V)}, VRt K r w H xs us → (getK xs k = none ∧ valV us k = none) ∨ ∃ x u, getK xs k = some x ∧ valV us k = some u ∧ VR K r w H x u
  | [], us, h => by simp only [VRt] at h; subst h; exact .inl ⟨rfl, rfl⟩
  | (k', x) :: xs, us, h => by
    simp only [VRt] at h
    obtain ⟨u, t, rfl, q1, q⟩ := h
    by_cases e : k' = k
    · subst e
      exact .inr ⟨x, u, by simp [getK], by simp [valV], q1⟩
    · have ih := VRt.get k q
      have e1 : getK ((k', x) :: xs) k = getK xs k := by simp [getK, List.find?_cons, e]
      have e2 : valV ((k', u) :: t) k = valV t k := by simp [valV, List.find?_cons, e]
      rw [e1, e2]
      exact ih
theorem VRk.app : ∀ {xs ys : List (MK × MV)} {us ws : List (Key × V)}, VRk K r w H xs us → VRk K r w H ys ws → VRk K r w H (xs ++ ys) (us ++ ws)
  | [], ys, us, ws, h, q => by simp only [VRk] at h; subst h; exact q
  | (k, x) :: xs, ys, us, ws, h, q => by
    simp only [VRk] at h
    obtain ⟨u, t, rfl, h1, h2⟩ := h
    simp only [List.cons_append, VRk]
    exact ⟨u, t ++ ws, rfl, h1, VRk.app h2 q⟩
theorem VRt.app : ∀ {xs ys : List (List MK × MV)} {us ws : List (List Key × V)}, VRt K r w H xs us → VRt K r w H ys ws → VRt K r w H (xs ++ ys) (us ++ ws)
  | [], ys, us, ws, h, q => by simp only [VRt] at h; subst h; exact q
  | (k, x) :: xs, ys, us, ws, h, q => by
    simp only [VRt] at h
    obtain ⟨u, t, rfl, h1, h2⟩ := h
    simp only [List.cons_append, VRt]
    exact ⟨u, t ++ ws, rfl, h1, VRt.app h2 q⟩
theorem VRk.rep (k : MK) {v : MV} {y : V} (hv : VR K r w H v y) : ∀ {xs : List (MK × MV)} {us : List (Key × V)}, VRk K r w H xs us → VRk K r w H (xs.map fun kv => if kv.1 = k then (kv.1, v) else kv) (us.map fun kv => if kv.1 = k then (kv.1, y) else kv)
  | [], us, h => by simp only [VRk] at h; subst h; simp [VRk]
  | (k', x) :: xs, us, h => by
    simp only [VRk] at h
    obtain ⟨u, t, rfl, q1, q⟩ := h
    have ih := VRk.rep k hv q
    by_cases e : k' = k
    · simp only [List.map_cons, e, if_true, VRk]
      exact ⟨y, _, rfl, hv, ih⟩
    · simp only [List.map_cons, e, if_false, VRk]
      exact ⟨u, _, rfl, q1, ih⟩
theorem VRt.rep (k : List MK) {v : MV} {y : V} (hv : VR K r w H v y) : ∀ {xs : List (List MK × MV)} {us : List (List Key × V)}, VRt K r w H xs us → VRt K r w H (xs.map fun kv => if kv.1 = k then (kv.1, v) else kv) (us.map fun kv => if kv.1 = k then (kv.1, y) else kv)
  | [], us, h => by simp only [VRt] at h; subst h; simp [VRt]
  | (k', x) :: xs, us, h => by
    simp only [VRt] at h
    obtain ⟨u, t, rfl, q1, q⟩ := h
    have ih := VRt.rep k hv q
    by_cases e : k' = k
    · simp only [List.map_cons, e, if_true, VRt]
      exact ⟨y, _, rfl, hv, ih⟩
    · simp only [List.map_cons, e, if_false, VRt]
      exact ⟨u, _, rfl, q1, ih⟩
theorem any_map_key {κ α β : Type} [DecidableEq κ] (k : κ) (xs : List (κ × α)) (us : List (κ × β)) (e : us.map (·.1) = xs.map (·.1)) : (us.any fun kv => decide (kv.1 = k)) = xs.any fun kv => decide (kv.1 = k) := by
  have h1 : (us.any fun kv => decide (kv.1 = k)) = (us.map (·.1)).any fun x => decide (x = k) := by rw [List.any_map]; rfl
  have h2 : (xs.any fun kv => decide (kv.1 = k)) = (xs.map (·.1)).any fun x => decide (x = k) := by rw [List.any_map]; rfl
  rw [h1, h2, e]
theorem VRk.put (k : MK) {v : MV} {y : V} (hv : VR K r w H v y) {xs : List (MK × MV)} {us : List (Key × V)} (h : VRk K r w H xs us) : VRk K r w H (putM xs k v) (putK us k y) := by
  unfold putM putK
  rw [any_map_key k xs us (VRk.keys h)]
  split
  · exact VRk.rep k hv h
  · refine VRk.app h ?_
    simp only [VRk]
    exact ⟨y, [], rfl, hv, rfl⟩
theorem VRt.put (k : List MK) {v : MV} {y : V} (hv : VR K r w H v y) {xs : List (List MK × MV)} {us : List (List Key × V)} (h : VRt K r w H xs us) : VRt K r w H (putM xs k v) (putK us k y) := by
  unfold putM putK
  rw [any_map_key k xs us (VRt.keys h)]
  split
  · exact VRt.rep k hv h
  · refine VRt.app h ?_
    simp only [VRt]
    exact ⟨y, [], rfl, hv, rfl⟩
theorem SR.set {s : SM} {z : L2.St} (h : SR K r w H s z) (i : Nat) {v : MV} {u : V} (hv : VR K r w H v u) : SR K r w H (s.set i (some v)) (z.set i (some u)) := by
  refine ⟨by simp [h.1], fun j w e => ?_⟩
  by_cases q : j = i
  · subst q
    have hl : j < s.length := by
      have := (List.getElem?_eq_some_iff.mp e).1
      simpa using this
    rw [List.getElem?_set_self hl] at e
    cases e
    rw [List.getElem?_set_self (by rw [← h.1]; exact hl)]
    exact ⟨u, rfl, hv⟩
  · rw [List.getElem?_set_ne (Ne.symm q)] at e ⊢
    exact h.2 j w e
end
end Ew
end

section
set_option Elab.async false
set_option linter.all false
set_option maxRecDepth 100000
set_option maxHeartbeats 4000000
/-! EwC: the rules of the small machine. -/
namespace Ew
open PySem PySem.Spec PyProof.Rows L2
variable [Tabs]

theorem PE.wk {X : Cx} {e : Expr} {t t' : TE} (h : PE X e t) (w : ∀ z H Q, t' z H Q → t z H Q) : PE X e t' := ⟨fun pins s z H Q I q => h.run pins s z H Q I (w z H Q q)⟩
theorem PT.wk {X : Cx} {e : Expr} {t t' : TT} (h : PT X e t) (w : ∀ z H Q, t' z H Q → t z H Q) : PT X e t' := ⟨fun pins s z H Q I q => h.run pins s z H Q I (w z H Q q)⟩
theorem PW.wk {X : Cx} {e : Expr} {t t' : TT} (h : PW X e t) (w : ∀ z H Q, t' z H Q → t z H Q) : PW X e t' := ⟨fun wh pins s z H Q I q => h.run wh pins s z H Q I (w z H Q q)⟩
theorem PA.wk {X : Cx} {es : List Expr} {t t' : TA} (h : PA X es t) (w : ∀ z H Q, t' z H Q → t z H Q) : PA X es t' := ⟨fun pos pins s z H Q I q => h.run pos pins s z H Q I (w z H Q q)⟩
theorem PS.wk {X : Cx} {st : Stmt} {t t' : TS} (h : PS X st t) (w : ∀ D z H, t' D z H → t D z H) : PS X st t' := ⟨fun pins s z H D I q => h.run pins s z H D I (w D z H q)⟩
theorem PSs.wk {X : Cx} {st : List Stmt} {t t' : TS} (h : PSs X st t) (w : ∀ D z H, t' D z H → t D z H) : PSs X st t' := ⟨fun pins s z H D I q => h.run pins s z H D I (w D z H q)⟩

/-! ### the readings -/
section
variable (K : PySem.W.Frag)
def Cont (r w : List Addr) (h' : MH) (H : Hp) (v : MV) (Q : VK) : Prop := ∀ r' u H', Fwd r H r' H' → Rel K r' w h' H' → VR K r' w H' v u → Q u H'
def ContS (r w : List Addr) (h' : MH) (H : Hp) (s' : SM) (Q : L2.St → Hp → Prop) : Prop := ∀ r' z' H', Fwd r H r' H' → Rel K r' w h' H' → SR K r' w H' s' z' → Q z' H'
def tM (m : XE) : TE := fun z H Q => ∃ r w s h v h', Rel K r w h H ∧ SR K r w H s z ∧ m s h = some (v, h') ∧ Cont K r w h' H v Q
def tT (m : XT) : TT := fun z H Q => ∃ r w s h v h', Rel K r w h H ∧ SR K r w H s z ∧ m s h = some (v, h') ∧ ∀ r' H', Fwd r H r' H' → Rel K r' w h' H' → Q v H'
def tA (m : XA) : TA := fun z H Q => ∃ r w s h vs h', Rel K r w h H ∧ SR K r w H s z ∧ m s h = some (vs, h') ∧ ∀ r' us H', Fwd r H r' H' → Rel K r' w h' H' → VRs K r' w H' vs us → Q us H'
/-- a fresh list or dict at p -/
def VF (r w : List Addr) (H : Hp) (v : MV) (p : Addr) : Prop := match v with
  | .lst xs => ∃ us, H p = some (.lst us) ∧ VRs K r w H xs us
  | .dK kvs => ∃ us, H p = some (.dK us) ∧ VRk K r w H kvs us
  | .dT kvs => ∃ us, H p = some (.dT us) ∧ VRt K r w H kvs us
  | _ => False
def ContF (r w : List Addr) (h' : MH) (H : Hp) (v : MV) (Q : VK) : Prop := ∀ r' p H', Fwd r H r' H' → H p = none → Rel K r' (p :: w) h' H' → VF K r' (p :: w) H' v p → Q (.ref p) H'
def tF (m : XE) : TE := fun z H Q => ∃ r w s h v h', Rel K r w h H ∧ SR K r w H s z ∧ m s h = some (v, h') ∧ ContF K r w h' H v Q
def EndS (r w : List Addr) (h' : MH) (H : Hp) (s' : SM) (D : Ends) : Fl → Prop
  | .nx => ContS K r w h' H s' D.nx
  | .bk => ContS K r w h' H s' D.bk
  | .ct => ContS K r w h' H s' D.ct
  | .rt v => Cont K r w h' H v D.rt
def tS (m : XS) : TS := fun D z H => ∃ r w s h f s' h', Rel K r w h H ∧ SR K r w H s z ∧ m s h = some (f, s', h') ∧ EndS K r w h' H s' D f
def tG (m : XG) : TG := fun u z H Q => ∃ r w s h v s' h', Rel K r w h H ∧ SR K r w H s z ∧ VR K r w H v u ∧ m v s h = some (s', h') ∧ ContS K r w h' H s' Q
def tGs (m : XGs) : TGs := fun us z H Q => ∃ r w s h vs s' h', Rel K r w h H ∧ SR K r w H s z ∧ VRs K r w H vs us ∧ m vs s h = some (s', h') ∧ ContS K r w h' H s' Q
def tO (m : XO) : TO := fun z H Q => ∃ r w s h v h', Rel K r w h H ∧ SR K r w H s z ∧ m s h = some (v, h') ∧ ∀ r' H', Fwd r H r' H' → Rel K r' w h' H' → Q v H'
end
abbrev ME (X : Cx) (e : Expr) (m : XE) : Prop := PE X e (tM X.K m)
abbrev MF (X : Cx) (e : Expr) (m : XE) : Prop := PE X e (tF X.K m)
abbrev MT (X : Cx) (e : Expr) (m : XT) : Prop := PT X e (tT X.K m)
abbrev MW (X : Cx) (e : Expr) (m : XT) : Prop := PW X e (tT X.K m)
structure MA (X : Cx) (es : List Expr) (m : XA) : Prop where
  pa : PA X es (tA X.K m)
  len : ∀ s h vs h', m s h = some (vs, h') → vs.length = es.length
abbrev MS (X : Cx) (st : Stmt) (m : XS) : Prop := PS X st (tS X.K m)
abbrev MSs (X : Cx) (st : List Stmt) (m : XS) : Prop := PSs X st (tS X.K m)
abbrev MG (X : Cx) (e : Expr) (m : XG) : Prop := PG X e (tG X.K m)
abbrev MGs (X : Cx) (es : List Expr) (m : XGs) : Prop := PGs X es (tGs X.K m)
abbrev MO (X : Cx) (e : Option Expr) (m : XO) : Prop := PO X e (tO X.K m)
section
variable {K : PySem.W.Frag} {r r' r1 w : List Addr} {H H' H1 : Hp} {h h' : MH}
theorem Cont.now {v : MV} {Q : VK} {u : V} (C : Cont K r w h H v Q) (R : Rel K r w h H) (q : VR K r w H v u) : Q u H := C r u H (Fwd.refl r H) R q
theorem Cont.fwd {v : MV} {Q : VK} {hh : MH} (C : Cont K r w h' H v Q) (F : Fwd r H r1 H1) (R1 : Rel K r1 w hh H1) : Cont K r1 w h' H1 v Q := fun r' u H' F' R' q => C r' u H' (F.tr R1 F') R' q
theorem ContS.now {s : SM} {Q : L2.St → Hp → Prop} {z : L2.St} (C : ContS K r w h H s Q) (R : Rel K r w h H) (q : SR K r w H s z) : Q z H := C r z H (Fwd.refl r H) R q
theorem ContS.fwd {s : SM} {Q : L2.St → Hp → Prop} {hh : MH} (C : ContS K r w h' H s Q) (F : Fwd r H r1 H1) (R1 : Rel K r1 w hh H1) : ContS K r1 w h' H1 s Q := fun r' u H' F' R' q => C r' u H' (F.tr R1 F') R' q
theorem ContF.fwd {v : MV} {Q : VK} {hh : MH} (C : ContF K r w h' H v Q) (F : Fwd r H r1 H1) (R1 : Rel K r1 w hh H1) : ContF K r1 w h' H1 v Q := fun r' p H' F' n R' q => C r' p H' (F.tr R1 F') (F.free R1 p n) R' q
theorem EndS.fwd {s : SM} {D : Ends} {f : Fl} {hh : MH} (C : EndS K r w h' H s D f) (F : Fwd r H r1 H1) (R1 : Rel K r1 w hh H1) : EndS K r1 w h' H1 s D f := by
  cases f <;> simp only [EndS] at C ⊢
  · exact ContS.fwd C F R1
  · exact Cont.fwd C F R1
  · exact ContS.fwd C F R1
  · exact ContS.fwd C F R1
theorem VF.vr {v : MV} {p : Addr} (R : Rel K r w h H) (np : Out r w p) (q : VF K r w H v p) : VR K r w H v (.ref p) := by
  cases v <;> simp only [VF] at q
  · obtain ⟨us, a, b⟩ := q
    simp only [VR]
    exact ⟨p, us, rfl, np, a, b⟩
  · obtain ⟨us, a, b⟩ := q
    simp only [VR]
    exact ⟨p, us, rfl, np, .inl a, b⟩
  · obtain ⟨us, a, b⟩ := q
    simp only [VR]
    exact ⟨p, us, rfl, np, .inl a, b⟩
theorem VF.map {r' w' : List Addr} (F : Stp r w H r' w' H') {v : MV} {p : Addr} (e : H' p = H p) (q : VF K r w H v p) : VF K r' w' H' v p := by
  cases v <;> simp only [VF] at q ⊢
  · obtain ⟨us, a, b⟩ := q
    exact ⟨us, e.trans a, VRs.map F _ _ b⟩
  · obtain ⟨us, a, b⟩ := q
    exact ⟨us, e.trans a, VRk.map F _ _ b⟩
  · obtain ⟨us, a, b⟩ := q
    exact ⟨us, e.trans a, VRt.map F _ _ b⟩
/-- a fresh list that was just laid -/
theorem ContF.lst {xs : List MV} {us : List V} {p : Addr} {Q : VK} (C : ContF K r w h H (.lst xs) Q) (R : Rel K r w h H) (hp : H p = none) (q : VRs K r w H xs us) : Q (.ref p) (upd H p (.lst us)) :=
  C r p _ (Fwd.new r hp) hp (R.hold hp) (by simp only [VF]; exact ⟨us, upd_same, VRs.map (Stp.hold R hp) _ _ q⟩)
theorem VR.newTup {xs : List MV} {us : List V} {p : Addr} (R : Rel K r w h H) (hp : H p = none) (q : VRs K r w H xs us) : VR K r w (upd H p (.tup us)) (.tup xs) (.ref p) := by
  simp only [VR]
  exact ⟨p, us, rfl, ⟨⟨R.nin hp, R.ninw hp⟩, upd_same⟩, VRs.fwd (Fwd.new r hp) _ _ q⟩
theorem Cont.tup {xs : List MV} {us : List V} {p : Addr} {Q : VK} (C : Cont K r w h H (.tup xs) Q) (R : Rel K r w h H) (hp : H p = none) (q : VRs K r w H xs us) : Q (.ref p) (upd H p (.tup us)) :=
  C r _ _ (Fwd.new r hp) (R.new hp) (VR.newTup R hp q)
theorem VR.newRow {xs : List MV} {us : List V} {p : Addr} {o : Obj} (hc : o.cls = .type "tuple") (hd : o.dict = none) (R : Rel K r w h H) (hp : H p = none) (q : VRs K r w H xs us) : VR K r w (upd H p (.frz o (.tup us))) (.row xs) (.ref p) := by
  simp only [VR]
  exact ⟨p, us, rfl, .inl ⟨⟨R.nin hp, R.ninw hp⟩, o, hc, hd, upd_same⟩, VRs.fwd (Fwd.new r hp) _ _ q⟩
theorem Cont.row {xs : List MV} {us : List V} {p : Addr} {o : Obj} {Q : VK} (C : Cont K r w h H (.row xs) Q) (hc : o.cls = .type "tuple") (hd : o.dict = none) (R : Rel K r w h H) (hp : H p = none) (q : VRs K r w H xs us) : Q (.ref p) (upd H p (.frz o (.tup us))) :=
  C r _ _ (Fwd.new r hp) (R.new hp) (VR.newRow hc hd R hp q)
end

/-! ### expressions -/
section
variable {K : PySem.W.Frag} {X : Cx} {e a b c : Expr} {m ma mb mc : XE} {pos : Pos}
/-- a fresh thing as a value; as a cell -/
theorem MF.me (he : MF X e m) : ME X e m := PE.wk he fun z H Q ⟨r, w, s, h, v, h', R, S, e, C⟩ => ⟨r, w, s, h, v, h', R, S, e, fun r' p H' F n R' q => by
  refine C r' (.ref p) H' F R'.drop (VF.vr R'.drop ⟨(R'.wh p List.mem_cons_self).1, R.ninw n⟩ (VF.map Stp.drop rfl q))⟩
theorem me_box (he : MF X e m) : ME X e (xBox m) := PE.wk he fun z H Q ⟨r, w, s, h, v, h', R, S, e, C⟩ => by
  unfold xBox at e
  cases e1 : m s h with
  | none => simp [e1] at e
  | some p =>
    obtain ⟨y, h1⟩ := p
    simp only [e1] at e
    refine ⟨r, w, s, h, y, h1, R, S, e1, fun r' p H' F n R' q => ?_⟩
    have np : p ∉ w := R.ninw n
    have F2 : Fwd r H (r' ++ [p]) H' := by
      obtain ⟨⟨ps, rfl, hps⟩, k, fz⟩ := F
      exact ⟨⟨ps ++ [p], by simp, fun x hx => by
        rcases List.mem_append.mp hx with hx | hx
        · exact hps x hx
        · rw [List.mem_singleton.mp hx]; exact n⟩, k, fz⟩
    have V : VR X.K (r' ++ [p]) w H' (.ref h1.length) (.ref p) := by
      simp only [VR]
      exact ⟨p, rfl, by rw [← R'.len]; simp⟩
    cases y <;> simp only [VF] at q <;> simp only [boxM, Option.some.injEq, Prod.mk.injEq, reduceCtorEq] at e
    · obtain ⟨rfl, rfl⟩ := e
      exact C (r' ++ [p]) _ H' F2 (R'.cell np (c := .lst _) q) V
    · obtain ⟨rfl, rfl⟩ := e
      exact C (r' ++ [p]) _ H' F2 (R'.cell np (c := .dK _) q) V
    · obtain ⟨rfl, rfl⟩ := e
      exact C (r' ++ [p]) _ H' F2 (R'.cell np (c := .dT _) q) V
theorem me_var {i : Nat} {x : Str} (hN : X.N[i]? = some x := by rfl) (hv : Vis X.env.scope x := by first | exact Or.inl rfl | exact Or.inr (Or.inl rfl) | exact Or.inr (Or.inr rfl)) (hd : (x == ("__debug__" : Str)) = false := by decide +kernel)
    (hcd : (x == ("__classdict__" : Str)) = false := by decide +kernel) : ME X (.Name x pos) (xVar i) := PE.wk (pe_var hN hv hd hcd) fun z H Q ⟨r, w, s, h, v, h', R, S, e, C⟩ => by
  unfold xVar at e
  cases e1 : s[i]? with
  | none => simp [e1] at e
  | some o =>
    cases o with
    | none => simp [e1] at e
    | some y =>
      simp only [e1, Option.some.injEq, Prod.mk.injEq] at e
      obtain ⟨rfl, rfl⟩ := e
      obtain ⟨u, q1, q2⟩ := S.2 i y e1
      exact ⟨u, q1, C.now R q2⟩
theorem me_c {v : MV} {u : V} (he : PE X e (tC u)) (hv : ∀ (r w : List Addr) (H : Hp), VR X.K r w H v u) : ME X e (xC v) := PE.wk he fun z H Q ⟨r, w, s, h, v', h', R, S, e, C⟩ => by
  simp only [xC, Option.some.injEq, Prod.mk.injEq] at e
  obtain ⟨rfl, rfl⟩ := e
  exact C.now R (hv _ _ _)
theorem me_int {i : Int} {j : Nat} : ME X (.Constant (.int i) j pos) (xC (.int i)) := me_c pe_int fun _ _ _ => by simp [VR]
theorem me_bl {k : Bool} {j : Nat} : ME X (.Constant (.bool k) j pos) (xC (.bl k)) := me_c pe_bl fun _ _ _ => by simp [VR]
theorem me_non {j : Nat} : ME X (.Constant .none j pos) (xC .non) := me_c pe_non fun _ _ _ => by simp [VR]
/-- two expressions and what is made of their values -/
theorem bin_wk {f : MH → MV → MV → Option MV} {t : R2} (hr : ∀ r w h H x y v u1 u2 Q, Rel K r w h H → VR K r w H x u1 → VR K r w H y u2 → f h x y = some v → Cont K r w h H v Q → t u1 u2 H Q) :
    ∀ z H Q, tM K (xOp f ma mb) z H Q → tOp t (tM K ma) (tM K mb) z H Q := fun z H Q ⟨r, w, s, h, v, h', R, S, e, C⟩ => by
  unfold xOp at e
  cases e1 : ma s h with
  | none => simp [e1] at e
  | some p1 =>
    obtain ⟨x, h1⟩ := p1
    simp only [e1] at e
    cases e2 : mb s h1 with
    | none => simp [e2] at e
    | some p2 =>
      obtain ⟨y, h2⟩ := p2
      simp only [e2] at e
      cases e3 : f h2 x y with
      | none => simp [e3] at e
      | some v' =>
        simp only [e3, Option.some.injEq, Prod.mk.injEq] at e
        obtain ⟨rfl, rfl⟩ := e
        exact ⟨r, w, s, h, x, h1, R, S, e1, fun r1 u1 H1 F1 R1 V1 => ⟨r1, w, s, h1, y, h2, R1, S.fwd F1, e2, fun r2 u2 H2 F2 R2 V2 =>
          hr r2 w h2 H2 x y v' u1 u2 Q R2 (VR.fwd F2 _ _ V1) V2 e3 ((C.fwd F1 R1).fwd F2 R2)⟩⟩
theorem me_op {op : Operator} {f : MH → MV → MV → Option MV} {t : R2} (ho : OpR X (binaryOp op) t) (hr : ∀ r w h H x y v u1 u2 Q, Rel X.K r w h H → VR X.K r w H x u1 → VR X.K r w H y u2 → f h x y = some v → Cont X.K r w h H v Q → t u1 u2 H Q)
    (ha : ME X a ma) (hb : ME X b mb) : ME X (.BinOp a op b pos) (xOp f ma mb) := PE.wk (pe_op ho ha hb) (bin_wk hr)
/-- a truth as a test -/
theorem tB_wk : ∀ z H Q, tT K (xB m) z H Q → tM K m z H fun x H' => ∃ k, x = .bl k ∧ Q k H' := fun z H Q ⟨r, w, s, h, v, h', R, S, e, C⟩ => by
  unfold xB at e
  cases e1 : m s h with
  | none => simp [e1] at e
  | some p =>
    obtain ⟨y, h1⟩ := p
    cases y <;> simp only [e1, reduceCtorEq, Option.some.injEq, Prod.mk.injEq] at e
    obtain ⟨rfl, rfl⟩ := e
    exact ⟨r, w, s, h, _, h1, R, S, e1, fun r' u H' F R' q => by
      simp only [VR] at q
      exact ⟨_, q, C r' H' F R'⟩⟩
theorem c_cmp {op : CmpOp} {f : MH → MV → MV → Option MV} {t : R2} (ho : OpR X (compareOp op) t) (hr : ∀ r w h H x y v u1 u2 Q, Rel X.K r w h H → VR X.K r w H x u1 → VR X.K r w H y u2 → f h x y = some v → Cont X.K r w h H v Q → t u1 u2 H Q)
    (ha : ME X a ma) (hb : ME X b mb) (hm : behindInMarks op b = false) : ME X (.Compare a [op] [b] pos) (xOp f ma mb) ∧ MT X (.Compare a [op] [b] pos) (xB (xOp f ma mb)) :=
  ⟨PE.wk (pe_cmpR ho ha hb hm) (bin_wk hr), PT.wk (pt_cmpR ho ha hb hm) fun z H Q q => bin_wk hr z H _ (tB_wk z H Q q)⟩
/-- any other expression that gives a truth, as a test -/
theorem mt_val (he : ME X e m) (hs : ∀ whole, isTrue e X.env whole = (do let v ← whole; standAt e.pos; holding [v] (truthy v)) := by intro _; rfl) : MT X e (xB m) := PT.wk (pt_val he hs) tB_wk
theorem opAdd_i : ∀ h x y v, opAdd h x y = some v → ∃ i j, x = .int i ∧ y = .int j ∧ v = .int (i + j) := by
  intro h x y v e
  cases x <;> cases y <;> simp [opAdd] at e
  exact ⟨_, _, rfl, rfl, e.symm⟩
theorem opSub_i : ∀ h x y v, opSub h x y = some v → ∃ i j, x = .int i ∧ y = .int j ∧ v = .int (i - j) := by
  intro h x y v e
  cases x <;> cases y <;> simp [opSub] at e
  exact ⟨_, _, rfl, rfl, e.symm⟩
theorem opMul_i : ∀ h x y v, opMul h x y = some v → ∃ i j, x = .int i ∧ y = .int j ∧ CMulW i j ∧ v = .int (i * j) := by
  intro h x y v e
  cases x <;> cases y <;> simp [opMul] at e
  exact ⟨_, _, rfl, rfl, e.1, e.2.symm⟩
theorem opDiv_i : ∀ h x y v, opDiv h x y = some v → ∃ i j, x = .int i ∧ y = .int j ∧ CDivW i j ∧ v = .int (i / j) := by
  intro h x y v e
  cases x <;> cases y <;> simp [opDiv] at e
  exact ⟨_, _, rfl, rfl, e.1, e.2.symm⟩
theorem opMod_i : ∀ h x y v, opMod h x y = some v → ∃ i j, x = .int i ∧ y = .int j ∧ 0 < j ∧ v = .int (i % j) := by
  intro h x y v e
  cases x <;> cases y <;> simp [opMod] at e
  exact ⟨_, _, rfl, rfl, e.1, e.2.symm⟩
theorem opPow_i : ∀ h x y v, opPow h x y = some v → ∃ i j, x = .int i ∧ y = .int j ∧ CPow i j ∧ v = .int (i ^ j.toNat) := by
  intro h x y v e
  cases x <;> cases y <;> simp only [opPow, reduceCtorEq] at e
  split at e
  · rename_i hc
    simp at e
    exact ⟨_, _, rfl, rfl, hc, e.symm⟩
  · cases e
theorem opLt_i : ∀ h x y v, opLt h x y = some v → ∃ i j, x = .int i ∧ y = .int j ∧ v = .bl (decide (i < j)) := by
  intro h x y v e
  cases x <;> cases y <;> simp [opLt] at e
  exact ⟨_, _, rfl, rfl, e.symm⟩
theorem opGt_i : ∀ h x y v, opGt h x y = some v → ∃ i j, x = .int i ∧ y = .int j ∧ v = .bl (decide (j < i)) := by
  intro h x y v e
  cases x <;> cases y <;> simp [opGt] at e
  exact ⟨_, _, rfl, rfl, e.symm⟩
theorem opGe_i : ∀ h x y v, opGe h x y = some v → ∃ i j, x = .int i ∧ y = .int j ∧ v = .bl (decide (j ≤ i)) := by
  intro h x y v e
  cases x <;> cases y <;> simp [opGe] at e
  exact ⟨_, _, rfl, rfl, e.symm⟩
theorem me_add (ha : ME X a ma) (hb : ME X b mb) : ME X (.BinOp a .Add b pos) (xOp opAdd ma mb) := me_op op_add (fun r w h H x y v u1 u2 Q R V1 V2 e C => by
  obtain ⟨i, j, rfl, rfl, rfl⟩ := opAdd_i h x y v e
  simp only [VR] at V1 V2
  exact ⟨i, j, V1, V2, C.now R (by simp [VR])⟩) ha hb
theorem me_sub (ha : ME X a ma) (hb : ME X b mb) : ME X (.BinOp a .Sub b pos) (xOp opSub ma mb) := me_op op_sub (fun r w h H x y v u1 u2 Q R V1 V2 e C => by
  obtain ⟨i, j, rfl, rfl, rfl⟩ := opSub_i h x y v e
  simp only [VR] at V1 V2
  exact ⟨i, j, V1, V2, C.now R (by simp [VR])⟩) ha hb
theorem me_mul (ha : ME X a ma) (hb : ME X b mb) : ME X (.BinOp a .Mult b pos) (xOp opMul ma mb) := me_op op_mulW (fun r w h H x y v u1 u2 Q R V1 V2 e C => by
  obtain ⟨i, j, rfl, rfl, hc, rfl⟩ := opMul_i h x y v e
  simp only [VR] at V1 V2
  exact ⟨i, j, V1, V2, hc, C.now R (by simp [VR])⟩) ha hb
theorem me_div (ha : ME X a ma) (hb : ME X b mb) : ME X (.BinOp a .FloorDiv b pos) (xOp opDiv ma mb) := me_op op_fdivW (fun r w h H x y v u1 u2 Q R V1 V2 e C => by
  obtain ⟨i, j, rfl, rfl, hc, rfl⟩ := opDiv_i h x y v e
  simp only [VR] at V1 V2
  exact ⟨i, j, V1, V2, hc, C.now R (by simp [VR])⟩) ha hb
theorem me_mod (ha : ME X a ma) (hb : ME X b mb) : ME X (.BinOp a .Mod b pos) (xOp opMod ma mb) := me_op op_mod (fun r w h H x y v u1 u2 Q R V1 V2 e C => by
  obtain ⟨i, j, rfl, rfl, hc, rfl⟩ := opMod_i h x y v e
  simp only [VR] at V1 V2
  exact ⟨i, j, V1, V2, hc, C.now R (by simp [VR])⟩) ha hb
theorem me_pow (ha : ME X a ma) (hb : ME X b mb) : ME X (.BinOp a .Pow b pos) (xOp opPow ma mb) := me_op op_pow (fun r w h H x y v u1 u2 Q R V1 V2 e C => by
  obtain ⟨i, j, rfl, rfl, hc, rfl⟩ := opPow_i h x y v e
  simp only [VR] at V1 V2
  exact ⟨i, j, V1, V2, hc, C.now R (by simp [VR])⟩) ha hb
theorem c_lt (ha : ME X a ma) (hb : ME X b mb) : ME X (.Compare a [.Lt] [b] pos) (xOp opLt ma mb) ∧ MT X (.Compare a [.Lt] [b] pos) (xB (xOp opLt ma mb)) := c_cmp op_lt (fun r w h H x y v u1 u2 Q R V1 V2 e C => by
  obtain ⟨i, j, rfl, rfl, rfl⟩ := opLt_i h x y v e
  simp only [VR] at V1 V2
  exact ⟨i, j, V1, V2, C.now R (by simp [VR])⟩) ha hb (nomark _)
theorem c_gt (ha : ME X a ma) (hb : ME X b mb) : ME X (.Compare a [.Gt] [b] pos) (xOp opGt ma mb) ∧ MT X (.Compare a [.Gt] [b] pos) (xB (xOp opGt ma mb)) := c_cmp op_gt (fun r w h H x y v u1 u2 Q R V1 V2 e C => by
  obtain ⟨i, j, rfl, rfl, rfl⟩ := opGt_i h x y v e
  simp only [VR] at V1 V2
  exact ⟨i, j, V1, V2, C.now R (by simp [VR])⟩) ha hb (nomark _)
theorem c_ge (ha : ME X a ma) (hb : ME X b mb) : ME X (.Compare a [.GtE] [b] pos) (xOp opGe ma mb) ∧ MT X (.Compare a [.GtE] [b] pos) (xB (xOp opGe ma mb)) := c_cmp op_ge (fun r w h H x y v u1 u2 Q R V1 V2 e C => by
  obtain ⟨i, j, rfl, rfl, rfl⟩ := opGe_i h x y v e
  simp only [VR] at V1 V2
  exact ⟨i, j, V1, V2, C.now R (by simp [VR])⟩) ha hb (nomark _)
theorem c_isN (ha : ME X a ma) (hb : ME X b mb) : ME X (.Compare a [.Is] [b] pos) (xOp opIsNon ma mb) ∧ MT X (.Compare a [.Is] [b] pos) (xB (xOp opIsNon ma mb)) := c_cmp op_isN (fun r w h H x y v u1 u2 Q R V1 V2 e C => by
  cases y <;> simp only [opIsNon, reduceCtorEq, Option.some.injEq] at e
  subst e
  simp only [VR] at V2
  refine ⟨V2, C.now R ?_⟩
  cases x <;> simp only [VR] at V1 ⊢ <;> first | (subst V1; rfl) | (obtain ⟨p, q⟩ := V1; rw [q.1]; rfl) | (obtain ⟨p, us, q⟩ := V1; rw [q.1]; rfl)) ha hb (nomark _)
theorem c_notN (ha : ME X a ma) (hb : ME X b mb) : ME X (.Compare a [.IsNot] [b] pos) (xOp opNotNon ma mb) ∧ MT X (.Compare a [.IsNot] [b] pos) (xB (xOp opNotNon ma mb)) := c_cmp op_notN (fun r w h H x y v u1 u2 Q R V1 V2 e C => by
  cases y <;> simp only [opNotNon, reduceCtorEq, Option.some.injEq] at e
  subst e
  simp only [VR] at V2
  refine ⟨V2, C.now R ?_⟩
  cases x <;> simp only [VR] at V1 ⊢ <;> first | (subst V1; rfl) | (obtain ⟨p, q⟩ := V1; rw [q.1]; rfl) | (obtain ⟨p, us, q⟩ := V1; rw [q.1]; rfl)) ha hb (nomark _)
end
end Ew
end

section
set_option Elab.async false
set_option linter.all false
set_option maxRecDepth 100000
set_option maxHeartbeats 4000000
/-! EwD: more rules of the small machine. -/
namespace Ew
open PySem PySem.Spec PyProof.Rows L2
variable [Tabs]
theorem PE.or2 {X : Cx} {e : Expr} {t t' : TE} (h : PE X e t) (h' : PE X e t') : PE X e (fun z H Q => t z H Q ∨ t' z H Q) := ⟨fun pins s z H Q I q => q.elim (h.run pins s z H Q I) (h'.run pins s z H Q I)⟩
theorem PT.or2 {X : Cx} {e : Expr} {t t' : TT} (h : PT X e t) (h' : PT X e t') : PT X e (fun z H Q => t z H Q ∨ t' z H Q) := ⟨fun pins s z H Q I q => q.elim (h.run pins s z H Q I) (h'.run pins s z H Q I)⟩
theorem PS.or2 {X : Cx} {e : Stmt} {t t' : TS} (h : PS X e t) (h' : PS X e t') : PS X e (fun D z H => t D z H ∨ t' D z H) := ⟨fun pins s z H D I q => q.elim (h.run pins s z H D I) (h'.run pins s z H D I)⟩
theorem PI.or2 {X : Cx} {tg e : Expr} {t t' : TI} (h : PI X tg e t) (h' : PI X tg e t') : PI X tg e (fun z H Q => t z H Q ∨ t' z H Q) := ⟨fun pins s z H Q I q => q.elim (h.run pins s z H Q I) (h'.run pins s z H Q I)⟩
/-! ### data -/
mutual
def toP : MV → PyData
  | .non => .none
  | .bl b => .bool b
  | .int i => .int i
  | .str x => .str x
  | .tup xs => .tuple (toPs xs)
  | .row xs => .tuple (toPs xs)
  | .lst xs => .list (toPs xs)
  | _ => .none
def toPs : List MV → List PyData
  | [] => []
  | x :: xs => toP x :: toPs xs
end
mutual
theorem toP_can : ∀ (n : Nat) (v : MV), isD n v = true → (toP v).canLay0 = true ∧ (toP v).depth ≤ n
  | n, .non, _ => by simp [toP, PyData.canLay0, PyData.depth]
  | n, .bl b, _ => by simp [toP, PyData.canLay0, PyData.depth]
  | n, .int i, _ => by simp [toP, PyData.canLay0, PyData.depth]
  | n, .str x, h => by
    simp only [isD, strFine, Bool.and_eq_true] at h
    simp only [toP, PyData.canLay0, PyData.strOk, PyData.depth]
    exact ⟨h.1, Nat.zero_le _⟩
  | 0, .tup xs, h => by simp [isD] at h
  | 0, .row xs, h => by simp [isD] at h
  | 0, .lst xs, h => by simp [isD] at h
  | n + 1, .tup xs, h => by
    simp only [isD] at h
    obtain ⟨a, b⟩ := toPs_can n xs h
    simp only [toP, PyData.canLay0, PyData.depth]
    exact ⟨a, by omega⟩
  | n + 1, .row xs, h => by
    simp only [isD] at h
    obtain ⟨a, b⟩ := toPs_can n xs h
    simp only [toP, PyData.canLay0, PyData.depth]
    exact ⟨a, by omega⟩
  | n + 1, .lst xs, h => by
    simp only [isD] at h
    obtain ⟨a, b⟩ := toPs_can n xs h
    simp only [toP, PyData.canLay0, PyData.depth]
    exact ⟨a, by omega⟩
  | n, .scr _, h => by cases n <;> simp [isD] at h
  | n, .dK _, h => by cases n <;> simp [isD] at h
  | n, .dT _, h => by cases n <;> simp [isD] at h
  | n, .ref _, h => by cases n <;> simp [isD] at h
theorem toPs_can : ∀ (n : Nat) (v : List MV), isDs n v = true → PyData.canLayAll0 (toPs v) = true ∧ PyData.depthAll (toPs v) ≤ n
  | n, [], _ => by simp [toPs, PyData.canLayAll0, PyData.depthAll]
  | n, x :: xs, h => by
    simp only [isDs, Bool.and_eq_true] at h
    obtain ⟨a, b⟩ := toP_can n x h.1
    obtain ⟨c, d⟩ := toPs_can n xs h.2
    simp only [toPs, PyData.canLayAll0, PyData.depthAll, Bool.and_eq_true]
    exact ⟨⟨a, c⟩, by omega⟩
end
mutual
theorem toP_eqv : ∀ (x y : MV) (n : Nat), isD n x = true → isD n y = true → PyData.eqv (toP x) (toP y) = eqD x y
  | .tup xs, y, 0, hx, _ => by simp [isD] at hx
  | .row xs, y, 0, hx, _ => by simp [isD] at hx
  | .lst xs, y, 0, hx, _ => by simp [isD] at hx
  | .tup xs, y, n + 1, hx, hy => by
    simp only [isD] at hx
    cases y <;> first | (simp [isD] at hy; done) | skip
    all_goals first
      | (rename_i ys; simp only [isD] at hy; simp only [toP, PyData.eqv, eqD]; exact toPs_eqv xs ys n hx hy)
      | (simp [toP, PyData.eqv, eqD])
  | .row xs, y, n + 1, hx, hy => by
    simp only [isD] at hx
    cases y <;> first | (simp [isD] at hy; done) | skip
    all_goals first
      | (rename_i ys; simp only [isD] at hy; simp only [toP, PyData.eqv, eqD]; exact toPs_eqv xs ys n hx hy)
      | (simp [toP, PyData.eqv, eqD])
  | .lst xs, y, n + 1, hx, hy => by
    simp only [isD] at hx
    cases y <;> first | (simp [isD] at hy; done) | skip
    all_goals first
      | (rename_i ys; simp only [isD] at hy; simp only [toP, PyData.eqv, eqD]; exact toPs_eqv xs ys n hx hy)
      | (simp [toP, PyData.eqv, eqD])
  | .non, y, n, hx, hy => by cases y <;> first | (cases n <;> simp [isD] at hy; done) | simp [toP, PyData.eqv, eqD]
  | .bl _, y, n, hx, hy => by cases y <;> first | (cases n <;> simp [isD] at hy; done) | simp [toP, PyData.eqv, eqD]
  | .int _, y, n, hx, hy => by cases y <;> first | (cases n <;> simp [isD] at hy; done) | simp [toP, PyData.eqv, eqD]
  | .str _, y, n, hx, hy => by cases y <;> first | (cases n <;> simp [isD] at hy; done) | simp [toP, PyData.eqv, eqD]
  | .scr _, y, n, hx, _ => by cases n <;> simp [isD] at hx
  | .dK _, y, n, hx, _ => by cases n <;> simp [isD] at hx
  | .dT _, y, n, hx, _ => by cases n <;> simp [isD] at hx
  | .ref _, y, n, hx, _ => by cases n <;> simp [isD] at hx
theorem toPs_eqv : ∀ (xs ys : List MV) (n : Nat), isDs n xs = true → isDs n ys = true → PyData.eqvAll (toPs xs) (toPs ys) = eqDs xs ys
  | [], [], n, _, _ => by simp [toPs, PyData.eqvAll, eqDs]
  | [], _ :: _, n, _, _ => by simp [toPs, PyData.eqvAll, eqDs]
  | _ :: _, [], n, _, _ => by simp [toPs, PyData.eqvAll, eqDs]
  | x :: xs, y :: ys, n, hx, hy => by
    simp only [isDs, Bool.and_eq_true] at hx hy
    simp only [toPs, PyData.eqvAll, eqDs]
    rw [toP_eqv x y n hx.1 hy.1, toPs_eqv xs ys n hx.2 hy.2]
end
mutual
theorem toP_dp (K : PySem.W.Frag) {r w : List Addr} {H : Hp} : ∀ (v : MV) (u : V) (n : Nat), isD n v = true → VR K r w H v u → Dp K H u (toP v)
  | .non, u, n, _, h => by simp only [VR] at h; subst h; exact Dp.non
  | .bl b, u, n, _, h => by simp only [VR] at h; subst h; exact Dp.bl b
  | .int i, u, n, _, h => by simp only [VR] at h; subst h; exact Dp.int i
  | .str x, u, n, _, h => by simp only [VR] at h; subst h; exact Dp.str x
  | .tup xs, u, 0, hd, h => by simp [isD] at hd
  | .row xs, u, 0, hd, h => by simp [isD] at hd
  | .lst xs, u, 0, hd, h => by simp [isD] at hd
  | .tup xs, u, n + 1, hd, h => by
    simp only [VR] at h
    simp only [isD] at hd
    obtain ⟨a, us, rfl, t, q⟩ := h
    exact Dp.tup t.sq (toPs_dp K xs us n hd q)
  | .row xs, u, n + 1, hd, h => by
    simp only [VR] at h
    simp only [isD] at hd
    obtain ⟨a, us, rfl, t, q⟩ := h
    exact Dp.tup t.sq (toPs_dp K xs us n hd q)
  | .lst xs, u, n + 1, hd, h => by
    simp only [VR] at h
    simp only [isD] at hd
    obtain ⟨a, us, rfl, _, t, q⟩ := h
    exact Dp.lst (.inl (.inl t)) (toPs_dp K xs us n hd q)
  | .scr _, u, n, hx, _ => by cases n <;> simp [isD] at hx
  | .dK _, u, n, hx, _ => by cases n <;> simp [isD] at hx
  | .dT _, u, n, hx, _ => by cases n <;> simp [isD] at hx
  | .ref _, u, n, hx, _ => by cases n <;> simp [isD] at hx
theorem toPs_dp (K : PySem.W.Frag) {r w : List Addr} {H : Hp} : ∀ (v : List MV) (u : List V) (n : Nat), isDs n v = true → VRs K r w H v u → DpAll K H u (toPs v)
  | [], u, n, _, h => by simp only [VRs] at h; subst h; exact DpAll.nil
  | x :: xs, u, n, hd, h => by
    simp only [VRs] at h
    simp only [isDs, Bool.and_eq_true] at hd
    obtain ⟨u, t, rfl, h1, h2⟩ := h
    exact DpAll.cons (toP_dp K x u n hd.1 h1) (toPs_dp K xs t n hd.2 h2)
end
theorem shaped_of {v : MV} (h : isD 60 v = true) : SeqAt.shaped (toP v) = true := by
  obtain ⟨a, b⟩ := toP_can 60 v h
  unfold SeqAt.shaped
  rw [a]
  simp only [Bool.true_and, decide_eq_true_eq]
  omega
theorem rd_dp (K : PySem.W.Frag) {r w : List Addr} {h : MH} {H : Hp} {v : MV} {u : V} (R : Rel K r w h H) (q : VR K r w H v u) (d : isD 60 (rdM h v) = true) : Dp K H u (toP (rdM h v)) := by
  cases v with
  | ref n =>
    simp only [rdM] at d ⊢
    simp only [VR] at q
    obtain ⟨a, rfl, hn⟩ := q
    cases e : h[n]? with
    | none => simp [e, isD] at d
    | some c =>
      have hc := R.at_ n a c hn e
      cases c <;> simp only [e] at d ⊢ <;> first | (simp [isD] at d; done) | skip
      simp only [CRel] at hc
      obtain ⟨us, h1, h2⟩ := hc
      simp only [toP]
      refine Dp.lst (.inl (.inl h1)) ?_
      simp only [isD] at d
      exact toPs_dp K _ _ 59 d h2
  | non => exact toP_dp K _ _ 60 d q
  | bl _ => exact toP_dp K _ _ 60 d q
  | int _ => exact toP_dp K _ _ 60 d q
  | str _ => exact toP_dp K _ _ 60 d q
  | tup _ => exact toP_dp K _ _ 60 d q
  | row _ => exact toP_dp K _ _ 60 d q
  | lst _ => exact toP_dp K _ _ 60 d q
  | scr _ => simp [rdM, isD] at d
  | dK _ => simp [rdM, isD] at d
  | dT _ => simp [rdM, isD] at d
section
variable {K : PySem.W.Frag} {X : Cx} {e a b c : Expr} {m ma mb mc : XE} {pos : Pos} {es : List Expr} {mas : XA}
/-! ### reading lists, dicts -/
theorem list_sq (K : PySem.W.Frag) {r w : List Addr} {h : MH} {H : Hp} {v : MV} {u : V} {xs : List MV} (R : Rel K r w h H) (q : VR K r w H v u) (e : listOf h v = some xs) : ∃ p us, u = .ref p ∧ SqL K H p us ∧ VRs K r w H xs us := by
  cases v <;> simp only [listOf, reduceCtorEq, Option.some.injEq] at e
  · subst e
    simp only [VR] at q
    obtain ⟨p, us, rfl, _, t, q⟩ := q
    exact ⟨p, us, rfl, .inl (.inl t), q⟩
  · subst e
    simp only [VR] at q
    obtain ⟨p, rfl, t⟩ := q
    rcases t with ⟨_, t⟩ | t
    · exact ⟨p, _, rfl, .inl t, VRs.ints _⟩
    · exact ⟨p, _, rfl, .inr t, VRs.ints _⟩
  · rename_i n
    simp only [VR] at q
    obtain ⟨p, rfl, hn⟩ := q
    cases e1 : h[n]? with
    | none => simp [e1] at e
    | some c =>
      have hc := R.at_ n p c hn e1
      cases c <;> simp only [e1, reduceCtorEq, Option.some.injEq] at e
      subst e
      simp only [CRel] at hc
      obtain ⟨us, h1, h2⟩ := hc
      exact ⟨p, us, rfl, .inl (.inl h1), h2⟩
theorem seq_sq (K : PySem.W.Frag) {r w : List Addr} {h : MH} {H : Hp} {v : MV} {u : V} {xs : List MV} (R : Rel K r w h H) (q : VR K r w H v u) (e : seqOf h v = some xs) : ∃ p us, u = .ref p ∧ (SqL K H p us ∨ SqT K H p us) ∧ VRs K r w H xs us := by
  cases v with
  | tup ys =>
    simp only [seqOf, Option.some.injEq] at e
    subst e
    simp only [VR] at q
    obtain ⟨p, us, rfl, t, q⟩ := q
    exact ⟨p, us, rfl, .inr t.sq, q⟩
  | row ys =>
    simp only [seqOf, Option.some.injEq] at e
    subst e
    simp only [VR] at q
    obtain ⟨p, us, rfl, t, q⟩ := q
    exact ⟨p, us, rfl, .inr t.sq, q⟩
  | _ => exact (fun ⟨p, us, e1, e2, e3⟩ => ⟨p, us, e1, .inl e2, e3⟩) (list_sq K R q (by simpa [seqOf] using e))
theorem dictK_rd {r w : List Addr} {h : MH} {H : Hp} {v : MV} {u : V} {xs : List (MK × MV)} (R : Rel K r w h H) (q : VR K r w H v u) (e : dictK h v = some xs) : ∃ p us, u = .ref p ∧ Rd H p (.dK us) ∧ VRk K r w H xs us := by
  cases v <;> simp only [dictK, reduceCtorEq, Option.some.injEq] at e
  · subst e
    simp only [VR] at q
    obtain ⟨p, us, rfl, _, t, q⟩ := q
    exact ⟨p, us, rfl, t, q⟩
  · rename_i n
    simp only [VR] at q
    obtain ⟨p, rfl, hn⟩ := q
    cases e1 : h[n]? with
    | none => simp [e1] at e
    | some c =>
      have hc := R.at_ n p c hn e1
      cases c <;> simp only [e1, reduceCtorEq, Option.some.injEq] at e
      · subst e
        simp only [CRel] at hc
        obtain ⟨us, h1, h2⟩ := hc
        exact ⟨p, us, rfl, .inl h1, h2⟩
      · subst e
        simp only [CRel] at hc
        obtain ⟨o, us, h1, h2⟩ := hc
        exact ⟨p, us, rfl, .inr ⟨o, h1⟩, h2⟩
theorem dictT_rd {r w : List Addr} {h : MH} {H : Hp} {v : MV} {u : V} {xs : List (List MK × MV)} (R : Rel K r w h H) (q : VR K r w H v u) (e : dictT h v = some xs) : ∃ p us, u = .ref p ∧ Rd H p (.dT us) ∧ VRt K r w H xs us := by
  cases v <;> simp only [dictT, reduceCtorEq, Option.some.injEq] at e
  · subst e
    simp only [VR] at q
    obtain ⟨p, us, rfl, _, t, q⟩ := q
    exact ⟨p, us, rfl, t, q⟩
  · rename_i n
    simp only [VR] at q
    obtain ⟨p, rfl, hn⟩ := q
    cases e1 : h[n]? with
    | none => simp [e1] at e
    | some c =>
      have hc := R.at_ n p c hn e1
      cases c <;> simp only [e1, reduceCtorEq, Option.some.injEq] at e
      · subst e
        simp only [CRel] at hc
        obtain ⟨us, h1, h2⟩ := hc
        exact ⟨p, us, rfl, .inl h1, h2⟩
      · subst e
        simp only [CRel] at hc
        obtain ⟨o, us, h1, h2⟩ := hc
        exact ⟨p, us, rfl, .inr ⟨o, h1⟩, h2⟩
theorem key_kV {r w : List Addr} {H : Hp} {v : MV} {u : V} {k : MK} (q : VR K r w H v u) (e : keyOf v = some k) : u = kV k := by
  cases v <;> simp [keyOf] at e <;> subst e <;> simp only [VR] at q <;> exact q
theorem keys_kV {r w : List Addr} {H : Hp} : ∀ {vs : List MV} {us : List V} {ks : List MK}, VRs K r w H vs us → keysOf vs = some ks → us = ks.map kV
  | [], us, ks, q, e => by
    simp [keysOf] at e; subst e
    simp only [VRs] at q; subst q; rfl
  | v :: vs, us, ks, q, e => by
    simp only [VRs] at q
    obtain ⟨u, t, rfl, q1, q2⟩ := q
    simp only [keysOf] at e
    split at e
    · rename_i k ks' e1 e2
      simp at e; subst e
      rw [key_kV q1 e1, keys_kV q2 e2]; rfl
    · cases e
/-- what a dict has, read -/
theorem look_get {r w : List Addr} {h : MH} {H : Hp} {d k : MV} {u1 u2 : V} {o : Option MV} (R : Rel K r w h H) (V1 : VR K r w H d u1) (V2 : VR K r w H k u2) (e : lookM h d k = some o) :
    ∃ p, u1 = .ref p ∧ ((o = none ∧ DGet H p u2 none) ∨ ∃ x u, o = some x ∧ DGet H p u2 (some u) ∧ VR K r w H x u) := by
  unfold lookM at e
  split at e
  · rename_i ks
    split at e
    · rename_i kvs kk e1 e2
      simp at e; subst e
      obtain ⟨p, us, rfl, h1, h2⟩ := dictT_rd R V1 e1
      simp only [VR] at V2
      obtain ⟨b, ws, rfl, t, q⟩ := V2
      have e3 := keys_kV q e2
      subst e3
      refine ⟨p, rfl, ?_⟩
      rcases VRt.get kk h2 with ⟨g1, g2⟩ | ⟨x, u, g1, g2, g3⟩
      · exact .inl ⟨g1, .inr ⟨us, kk, b, h1, rfl, t.2, g2.symm⟩⟩
      · exact .inr ⟨x, u, g1, .inr ⟨us, kk, b, h1, rfl, t.2, g2.symm⟩, g3⟩
    · cases e
  · split at e
    · rename_i kvs kk e1 e2
      simp at e; subst e
      obtain ⟨p, us, rfl, h1, h2⟩ := dictK_rd R V1 e1
      have e3 := key_kV V2 e2
      subst e3
      refine ⟨p, rfl, ?_⟩
      rcases VRk.get kk h2 with ⟨g1, g2⟩ | ⟨x, u, g1, g2, g3⟩
      · exact .inl ⟨g1, .inl ⟨us, kk, h1, rfl, g2.symm⟩⟩
      · exact .inr ⟨x, u, g1, .inl ⟨us, kk, h1, rfl, g2.symm⟩, g3⟩
    · cases e
theorem flat_of {r w : List Addr} {H : Hp} {v : MV} {u : V} (q : VR K r w H v u) (f : flatM v = true) : flatV u = true := by
  cases v <;> simp [flatM] at f <;> simp only [VR] at q <;> subst q <;> rfl
theorem flats_of {r w : List Addr} {H : Hp} : ∀ {vs : List MV} {us : List V}, VRs K r w H vs us → vs.all flatM = true → us.all flatV = true
  | [], us, q, _ => by simp only [VRs] at q; subst q; rfl
  | v :: vs, us, q, f => by
    simp only [VRs] at q
    obtain ⟨u, t, rfl, q1, q2⟩ := q
    rw [List.all_cons, Bool.and_eq_true] at f ⊢
    exact ⟨flat_of q1 f.1, flats_of q2 f.2⟩
theorem feq_of {r w : List Addr} {H : Hp} {x y : MV} {u v : V} (q1 : VR K r w H x u) (q2 : VR K r w H y v) (f1 : flatM x = true) (f2 : flatM y = true) : eqV v u = feqM y x := by
  cases x <;> simp [flatM] at f1 <;> simp only [VR] at q1 <;> subst q1 <;> cases y <;> simp [flatM] at f2 <;> simp only [VR] at q2 <;> subst q2 <;> rfl
theorem in_of {r w : List Addr} {H : Hp} {x : MV} {u : V} (q1 : VR K r w H x u) (f1 : flatM x = true) : ∀ {vs : List MV} {us : List V}, VRs K r w H vs us → vs.all flatM = true → inV u us = vs.any fun y => feqM y x
  | [], us, q, _ => by simp only [VRs] at q; subst q; rfl
  | v :: vs, us, q, f => by
    simp only [VRs] at q
    obtain ⟨u', t, rfl, q2, q3⟩ := q
    rw [List.all_cons, Bool.and_eq_true] at f
    have ih := in_of q1 f1 q3 f.2
    unfold inV at ih ⊢
    rw [List.any_cons, List.any_cons, ih, feq_of q1 q2 f1 f.1]
theorem xOp_at {f : MH → MV → MV → Option MV} {s : SM} {h h' : MH} {v : MV} (e : xOp f ma mb s h = some (v, h')) : ∃ x h1 y, ma s h = some (x, h1) ∧ mb s h1 = some (y, h') ∧ f h' x y = some v := by
  unfold xOp at e
  cases e1 : ma s h with
  | none => simp [e1] at e
  | some p1 =>
    obtain ⟨x, h1⟩ := p1
    simp only [e1] at e
    cases e2 : mb s h1 with
    | none => simp [e2] at e
    | some p2 =>
      obtain ⟨y, h2⟩ := p2
      simp only [e2] at e
      cases e3 : f h2 x y with
      | none => simp [e3] at e
      | some v' =>
        simp only [e3, Option.some.injEq, Prod.mk.injEq] at e
        obtain ⟨rfl, rfl⟩ := e
        exact ⟨x, h1, y, rfl, e2, e3⟩
/-- two expressions, then R of their values -/
theorem two_at {r w : List Addr} {s : SM} {z : L2.St} {h h1 h2 : MH} {H : Hp} {x y : MV} {T : V → V → Hp → Prop} (R : Rel K r w h H) (S : SR K r w H s z) (e1 : ma s h = some (x, h1)) (e2 : mb s h1 = some (y, h2))
    (k : ∀ r2 u1 u2 H2, Fwd r H r2 H2 → Rel K r2 w h2 H2 → VR K r2 w H2 x u1 → VR K r2 w H2 y u2 → T u1 u2 H2) : tM K ma z H fun u1 H1 => tM K mb z H1 fun u2 H2 => T u1 u2 H2 :=
  ⟨r, w, s, h, x, h1, R, S, e1, fun r1 u1 H1 F1 R1 V1 => ⟨r1, w, s, h1, y, h2, R1, S.fwd F1, e2, fun r2 u2 H2 F2 R2 V2 => k r2 u1 u2 H2 (F1.tr R1 F2) R2 (VR.fwd F2 _ _ V1) V2⟩⟩
theorem c_in {k : Nat} (hr : Room k X.A) (ha : ME X a ma) (hb : ME X b mb) (hm : behindInMarks .In b = false := by rfl) : ME X (.Compare a [.In] [b] pos) (xOp opIn ma mb) ∧ MT X (.Compare a [.In] [b] pos) (xB (xOp opIn ma mb)) := by
  have main : ∀ z H Q, tM X.K (xOp opIn ma mb) z H Q → tOp (rIn X.K false) (tM X.K ma) (tM X.K mb) z H Q ∨ tDIn (tM X.K ma) (tM X.K mb) z H Q := by
   rintro z H Q ⟨r, w, s, h, v, h', R, S, e, C⟩
   obtain ⟨x, h1, y, e1, e2, e3⟩ := xOp_at e
   unfold opIn at e3
   cases e4 : seqOf h' y with
   | some xs =>
     rw [e4] at e3
     refine .inl (two_at R S e1 e2 fun r2 u1 u2 H2 F R2 V1 V2 => ?_)
     obtain ⟨p, us, rfl, sq, q⟩ := seq_sq X.K R2 V2 e4
     simp only [inSeq] at e3
     split at e3
     · rename_i f
       rw [Bool.and_eq_true] at f
       simp only [Option.map_some, Option.some.injEq] at e3
       subst e3
       exact ⟨p, us, rfl, sq, flat_of V1 f.1, flats_of q f.2, C r2 _ H2 F R2 (by simp only [VR, Bool.false_eq_true, if_false]; rw [in_of V1 f.1 q f.2])⟩
     · cases e3
   | none =>
     rw [e4] at e3
     refine .inr (two_at R S e1 e2 fun r2 u1 u2 H2 F R2 V1 V2 => ?_)
     simp only at e3
     cases e5 : lookM h' y x with
     | none => simp [e5] at e3
     | some o =>
       simp only [e5, Option.map_some, Option.some.injEq] at e3
       subst e3
       obtain ⟨p, rfl, g⟩ := look_get R2 V2 V1 e5
       rcases g with ⟨rfl, g⟩ | ⟨x', u, rfl, g, _⟩
       · exact ⟨p, none, rfl, g, C r2 _ H2 F R2 (by simp [VR])⟩
       · exact ⟨p, some u, rfl, g, C r2 _ H2 F R2 (by simp [VR])⟩
  exact ⟨PE.wk (PE.or2 (pe_cmpR op_in_seq ha hb hm) (pe_cmp (pc_din (hu_of hr) ha hb) hm)) main,
    PT.wk (PT.or2 (pt_cmpR op_in_seq ha hb hm) (pt_cmp (pc_din (hu_of hr) ha hb) hm)) fun z H Q q => main z H _ (tB_wk z H Q q)⟩
theorem c_notin {k : Nat} (hr : Room k X.A) (ha : ME X a ma) (hb : ME X b mb) (hm : behindInMarks .NotIn b = false := by rfl) : ME X (.Compare a [.NotIn] [b] pos) (xOp opNotIn ma mb) ∧ MT X (.Compare a [.NotIn] [b] pos) (xB (xOp opNotIn ma mb)) := by
  have main : ∀ z H Q, tM X.K (xOp opNotIn ma mb) z H Q → tOp (rIn X.K true) (tM X.K ma) (tM X.K mb) z H Q ∨ tDNotIn (tM X.K ma) (tM X.K mb) z H Q := by
   rintro z H Q ⟨r, w, s, h, v, h', R, S, e, C⟩
   obtain ⟨x, h1, y, e1, e2, e3⟩ := xOp_at e
   unfold opNotIn at e3
   cases e4 : seqOf h' y with
   | some xs =>
     rw [e4] at e3
     refine .inl (two_at R S e1 e2 fun r2 u1 u2 H2 F R2 V1 V2 => ?_)
     obtain ⟨p, us, rfl, sq, q⟩ := seq_sq X.K R2 V2 e4
     simp only [inSeq] at e3
     split at e3
     · rename_i f
       rw [Bool.and_eq_true] at f
       simp only [Option.map_some, Option.some.injEq] at e3
       subst e3
       exact ⟨p, us, rfl, sq, flat_of V1 f.1, flats_of q f.2, C r2 _ H2 F R2 (by simp only [VR, if_true]; rw [in_of V1 f.1 q f.2])⟩
     · cases e3
   | none =>
     rw [e4] at e3
     refine .inr (two_at R S e1 e2 fun r2 u1 u2 H2 F R2 V1 V2 => ?_)
     simp only at e3
     cases e5 : lookM h' y x with
     | none => simp [e5] at e3
     | some o =>
       simp only [e5, Option.map_some, Option.some.injEq] at e3
       subst e3
       obtain ⟨p, rfl, g⟩ := look_get R2 V2 V1 e5
       rcases g with ⟨rfl, g⟩ | ⟨x', u, rfl, g, _⟩
       · exact ⟨p, none, rfl, g, C r2 _ H2 F R2 (by simp [VR])⟩
       · exact ⟨p, some u, rfl, g, C r2 _ H2 F R2 (by simp [VR])⟩
  exact ⟨PE.wk (PE.or2 (pe_cmpR op_notIn_seq ha hb hm) (pe_cmp (pc_dnotin (hu_of hr) ha hb) hm)) main,
    PT.wk (PT.or2 (pt_cmpR op_notIn_seq ha hb hm) (pt_cmp (pc_dnotin (hu_of hr) ha hb) hm)) fun z H Q q => main z H _ (tB_wk z H Q q)⟩
theorem me_ix {k : Nat} (hr : Room k X.A) (ha : ME X a ma) (hb : ME X b mb) (hs : PlainIx b := by exact fun _ _ => rfl) : ME X (.Subscript a b pos) (xOp opIx ma mb) :=
  PE.wk (PE.or2 (pe_ix (ix_list.or ix_tup) ha hb hs) (pe_dget (hu_of hr) ha hb hs)) fun z H Q ⟨r, w, s, h, v, h', R, S, e, C⟩ => by
  obtain ⟨x, h1, y, e1, e2, e3⟩ := xOp_at e
  unfold opIx at e3
  cases e4 : seqOf h' x with
  | some xs =>
    rw [e4] at e3
    refine .inl (two_at R S e1 e2 fun r2 u1 u2 H2 F R2 V1 V2 => ?_)
    cases y <;> simp only [reduceCtorEq] at e3
    obtain ⟨p, us, rfl, sq, q⟩ := seq_sq X.K R2 V1 e4
    obtain ⟨u, q1, q2⟩ := VRs.at_ q e3
    simp only [VR] at V2
    subst V2
    rcases sq with sq | sq
    · exact .inl ⟨p, us, _, u, rfl, rfl, sq, q1, C r2 u H2 F R2 q2⟩
    · exact .inr ⟨p, us, _, u, rfl, rfl, sq, q1, C r2 u H2 F R2 q2⟩
  | none =>
    rw [e4] at e3
    simp only at e3
    refine .inr (two_at R S e1 e2 fun r2 u1 u2 H2 F R2 V1 V2 => ?_)
    split at e3
    · rename_i v' e5
      simp only [Option.some.injEq] at e3
      subst e3
      obtain ⟨p, rfl, g⟩ := look_get R2 V1 V2 e5
      rcases g with ⟨q, _⟩ | ⟨x', u, q, g, q2⟩
      · cases q
      · cases q
        exact ⟨p, u, rfl, g, C r2 u H2 F R2 q2⟩
    · cases e3
/-! ### arguments, displays, built-ins -/
theorem ma_nil : MA X [] xNil := ⟨PA.wk pa_nil fun z H Q ⟨r, w, s, h, v, h', R, S, e, C⟩ => by
  simp only [xNil, Option.some.injEq, Prod.mk.injEq] at e
  obtain ⟨rfl, rfl⟩ := e
  exact C r [] H (Fwd.refl r H) R (by simp [VRs]), fun s h vs h' e => by
  simp only [xNil, Option.some.injEq, Prod.mk.injEq] at e
  obtain ⟨rfl, rfl⟩ := e
  rfl⟩
theorem xCons_at {s : SM} {h h' : MH} {vs : List MV} (e : xCons ma mas s h = some (vs, h')) : ∃ x h1 xs, ma s h = some (x, h1) ∧ mas s h1 = some (xs, h') ∧ vs = x :: xs := by
  unfold xCons at e
  cases e1 : ma s h with
  | none => simp [e1] at e
  | some p1 =>
    obtain ⟨x, h1⟩ := p1
    simp only [e1] at e
    cases e2 : mas s h1 with
    | none => simp [e2] at e
    | some p2 =>
      obtain ⟨xs, h2⟩ := p2
      simp only [e2, Option.some.injEq, Prod.mk.injEq] at e
      obtain ⟨rfl, rfl⟩ := e
      exact ⟨x, h1, xs, rfl, e2, rfl⟩
theorem ma_cons (ha : ME X e ma) (hb : MA X es mas) (hs : starEach (e :: es) X.env = (false, eval e X.env) :: starEach es X.env := by rfl) : MA X (e :: es) (xCons ma mas) := ⟨PA.wk (pa_cons ha hb.pa hs) fun z H Q ⟨r, w, s, h, v, h', R, S, e, C⟩ => by
  obtain ⟨x, h1, xs, e1, e2, rfl⟩ := xCons_at e
  exact ⟨r, w, s, h, x, h1, R, S, e1, fun r1 u1 H1 F1 R1 V1 => ⟨r1, w, s, h1, xs, h', R1, S.fwd F1, e2, fun r2 us H2 F2 R2 V2 => C r2 _ H2 (F1.tr R1 F2) R2 (by
    simp only [VRs]; exact ⟨u1, us, rfl, VR.fwd F2 _ _ V1, V2⟩)⟩⟩, fun s h vs h' e => by
  obtain ⟨x, h1, xs, e1, e2, rfl⟩ := xCons_at e
  simp [hb.len s h1 xs h' e2]⟩
theorem me_tup {x1} (h : MA X es mas) (hn : es.length ≤ 1000 := by decide) : ME X (.Tuple es x1 pos) (xTup mas) := PE.wk (pe_tup h.pa) fun z H Q ⟨r, w, s, hh, v, h', R, S, e, C⟩ => by
  unfold xTup at e
  cases e1 : mas s hh with
  | none => simp [e1] at e
  | some p1 =>
    obtain ⟨xs, h1⟩ := p1
    simp only [e1, Option.some.injEq, Prod.mk.injEq] at e
    obtain ⟨rfl, rfl⟩ := e
    refine ⟨r, w, s, hh, xs, h1, R, S, e1, fun r1 us H1 F1 R1 V1 => ⟨?_, fun p hp => (C.fwd F1 R1).tup R1 hp V1⟩⟩
    rw [← VRs.length V1, h.len s hh xs h1 e1]
    exact Nat.le_of_lt (small1000 hn)
def tTupR (t : TA) : TE := fun σ H Q => t σ H fun xs H1 => xs.length ≤ sizeLine ∧ ∀ (p : Addr) (o : Obj), o.cls = .type "tuple" → o.dict = none → H1 p = none → Q (.ref p) (upd H1 p (.frz o (.tup xs)))
theorem pe_tupR {t : TA} {x1 : Nat} (h : PA X es t) : PE X (.Tuple es x1 pos) (tTupR t) := by
  refine ⟨fun pins s σ H Q I hq => ?_⟩
  refine wpAny_Tuple_spliced (thn (h.run pos pins s σ H _ I hq) fun us s1 ⟨xs, H1, I1, r, z, q⟩ => ⟨by rw [← r.length]; exact z, ?_⟩)
  have hf : H1 s1.heap.objs.size = none := I1.hok.fresh (Nat.le_refl _)
  refine ⟨.ref s1.heap.objs.size, _, I1.laid (t' := s1.toks) (o := .frz _ (.tup xs)) (fun b u e => Heap.get?_push_of_some _ e) (Nat.le_refl _) ⟨Heap.get?_push_size _ rfl, z, us, r, ⟨_, Heap.get?_push_size _ rfl, rfl, _, rfl⟩⟩, rfl, q _ _ rfl rfl hf⟩
theorem me_tupR {x1} (h : MA X es mas) (hn : es.length ≤ 1000 := by decide) : ME X (.Tuple es x1 pos) (xTupR mas) := PE.wk (pe_tupR h.pa) fun z H Q ⟨r, w, s, hh, v, h', R, S, e, C⟩ => by
  unfold xTupR at e
  cases e1 : mas s hh with
  | none => simp [e1] at e
  | some p1 =>
    obtain ⟨xs, h1⟩ := p1
    simp only [e1, Option.some.injEq, Prod.mk.injEq] at e
    obtain ⟨rfl, rfl⟩ := e
    refine ⟨r, w, s, hh, xs, h1, R, S, e1, fun r1 us H1 F1 R1 V1 => ⟨?_, fun p o hc hd hp => (C.fwd F1 R1).row hc hd R1 hp V1⟩⟩
    rw [← VRs.length V1, h.len s hh xs h1 e1]
    exact Nat.le_of_lt (small1000 hn)
theorem mf_lst (h : MA X es mas) (hn : es.length ≤ 1000 := by decide) : MF X (.List es pos) (xLst mas) := PE.wk (pe_lst h.pa) fun z H Q ⟨r, w, s, hh, v, h', R, S, e, C⟩ => by
  unfold xLst at e
  cases e1 : mas s hh with
  | none => simp [e1] at e
  | some p1 =>
    obtain ⟨xs, h1⟩ := p1
    simp only [e1, Option.some.injEq, Prod.mk.injEq] at e
    obtain ⟨rfl, rfl⟩ := e
    refine ⟨r, w, s, hh, xs, h1, R, S, e1, fun r1 us H1 F1 R1 V1 => ⟨?_, fun p hp => (C.fwd F1 R1).lst R1 hp V1⟩⟩
    rw [← VRs.length V1, h.len s hh xs h1 e1]
    exact Nat.le_of_lt (small1000 hn)
theorem mf_dnewK : MF X (.Dict [] [] pos) (xC (.dK [])) := PE.wk pe_dnewK fun z H Q ⟨r, w, s, hh, v, h', R, S, e, C⟩ p hp => by
  simp only [xC, Option.some.injEq, Prod.mk.injEq] at e
  obtain ⟨rfl, rfl⟩ := e
  exact C r p _ (Fwd.new r hp) hp (R.hold hp) (by simp only [VF]; exact ⟨[], upd_same, by simp [VRk]⟩)
theorem mf_dnewT : MF X (.Dict [] [] pos) (xC (.dT [])) := PE.wk pe_dnewT fun z H Q ⟨r, w, s, hh, v, h', R, S, e, C⟩ p hp => by
  simp only [xC, Option.some.injEq, Prod.mk.injEq] at e
  obtain ⟨rfl, rfl⟩ := e
  exact C r p _ (Fwd.new r hp) hp (R.hold hp) (by simp only [VF]; exact ⟨[], upd_same, by simp [VRt]⟩)
theorem xArgs_at {f : MH → List MV → Option MV} {s : SM} {h h' : MH} {v : MV} (e : xArgs f mas s h = some (v, h')) : ∃ xs, mas s h = some (xs, h') ∧ f h' xs = some v := by
  unfold xArgs at e
  cases e1 : mas s h with
  | none => simp [e1] at e
  | some p1 =>
    obtain ⟨xs, h1⟩ := p1
    simp only [e1] at e
    cases e2 : f h1 xs with
    | none => simp [e2] at e
    | some v' =>
      simp only [e2, Option.some.injEq, Prod.mk.injEq] at e
      obtain ⟨rfl, rfl⟩ := e
      exact ⟨xs, rfl, e2⟩
/-- a built-in function of arguments that changes nothing -/
theorem me_b {id : String} {x : Str} {p : Pos} {f : MH → List MV → Option MV} {t : List V → Hp → VK → Prop} (hc : CallR X (.builtin id) t) (hr : ∀ r w h H xs v us Q, Rel X.K r w h H → VRs X.K r w H xs us → f h xs = some v → Cont X.K r w h H v Q → t us H Q)
    (hv : bootBuiltins x = some (.builtin id)) (hm : X.mg x = none) (ha : MA X (e :: es) mas) (hg : Gl X x := by rfl) (hn : x ≠ "__name__" := by decide +kernel) (hdb : (x == ("__debug__" : Str)) = false := by decide +kernel)
    (he : starEach (e :: es) X.env = (false, eval e X.env) :: starEach es X.env := by rfl) (hpl : (backTo pos (starEach es X.env)).any (·.1) = false := by rfl) : ME X (.Call (.Name x p) (e :: es) [] pos) (xArgs f mas) :=
  PE.wk (pe_callB hc hg hm hv ha.pa hn hdb he hpl) fun z H Q ⟨r, w, s, h, v, h', R, S, e, C⟩ => by
  obtain ⟨xs, e1, e2⟩ := xArgs_at e
  exact ⟨r, w, s, h, xs, h', R, S, e1, fun r1 us H1 F1 R1 V1 => hr r1 w h' H1 xs v us Q R1 V1 e2 (C.fwd F1 R1)⟩
theorem me_t {T : String} {x : Str} {p : Pos} {f : MH → List MV → Option MV} {t : List V → Hp → VK → Prop} (hc : CallR X (.type T) t) (hr : ∀ r w h H xs v us Q, Rel X.K r w h H → VRs X.K r w H xs us → f h xs = some v → Cont X.K r w h H v Q → t us H Q)
    (hv : bootBuiltins x = some (.type T)) (hm : X.mg x = none) (ha : MA X (e :: es) mas) (hg : Gl X x := by rfl) (hn : x ≠ "__name__" := by decide +kernel) (hdb : (x == ("__debug__" : Str)) = false := by decide +kernel)
    (he : starEach (e :: es) X.env = (false, eval e X.env) :: starEach es X.env := by rfl) (hpl : (backTo pos (starEach es X.env)).any (·.1) = false := by rfl) : ME X (.Call (.Name x p) (e :: es) [] pos) (xArgs f mas) :=
  PE.wk (pe_callTy hc hg hm hv ha.pa hn hdb he hpl) fun z H Q ⟨r, w, s, h, v, h', R, S, e, C⟩ => by
  obtain ⟨xs, e1, e2⟩ := xArgs_at e
  exact ⟨r, w, s, h, xs, h', R, S, e1, fun r1 us H1 F1 R1 V1 => hr r1 w h' H1 xs v us Q R1 V1 e2 (C.fwd F1 R1)⟩
theorem mf_t {T : String} {x : Str} {p : Pos} {f : MH → List MV → Option MV} {t : List V → Hp → VK → Prop} (hc : CallR X (.type T) t) (hr : ∀ r w h H xs v us Q, Rel X.K r w h H → VRs X.K r w H xs us → f h xs = some v → ContF X.K r w h H v Q → t us H Q)
    (hv : bootBuiltins x = some (.type T)) (hm : X.mg x = none) (ha : MA X (e :: es) mas) (hg : Gl X x := by rfl) (hn : x ≠ "__name__" := by decide +kernel) (hdb : (x == ("__debug__" : Str)) = false := by decide +kernel)
    (he : starEach (e :: es) X.env = (false, eval e X.env) :: starEach es X.env := by rfl) (hpl : (backTo pos (starEach es X.env)).any (·.1) = false := by rfl) : MF X (.Call (.Name x p) (e :: es) [] pos) (xArgs f mas) :=
  PE.wk (pe_callTy hc hg hm hv ha.pa hn hdb he hpl) fun z H Q ⟨r, w, s, h, v, h', R, S, e, C⟩ => by
  obtain ⟨xs, e1, e2⟩ := xArgs_at e
  exact ⟨r, w, s, h, xs, h', R, S, e1, fun r1 us H1 F1 R1 V1 => hr r1 w h' H1 xs v us Q R1 V1 e2 (C.fwd F1 R1)⟩
theorem vrs1 {r w : List Addr} {H : Hp} {x : MV} {us : List V} (q : VRs K r w H [x] us) : ∃ u, us = [u] ∧ VR K r w H x u := by
  simp only [VRs] at q
  obtain ⟨u, t, rfl, q, rfl⟩ := q
  exact ⟨u, rfl, q⟩
theorem vrs2 {r w : List Addr} {H : Hp} {x y : MV} {us : List V} (q : VRs K r w H [x, y] us) : ∃ u v, us = [u, v] ∧ VR K r w H x u ∧ VR K r w H y v := by
  simp only [VRs] at q
  obtain ⟨u, t, rfl, q, u2, t2, rfl, q2, rfl⟩ := q
  exact ⟨u, u2, rfl, q, q2⟩
theorem me_abs {p : Pos} (hm : X.mg "abs" = none) (ha : MA X (e :: es) mas) (hg : Gl X "abs" := by rfl) (he : starEach (e :: es) X.env = (false, eval e X.env) :: starEach es X.env := by rfl) (hpl : (backTo pos (starEach es X.env)).any (·.1) = false := by rfl) :
    ME X (.Call (.Name "abs" p) (e :: es) [] pos) (xArgs fAbs mas) := me_b call_abs (fun r w h H xs v us Q R V e C => by
  unfold fAbs at e
  split at e
  · simp at e; subst e
    obtain ⟨u, rfl, q⟩ := vrs1 V
    simp only [VR] at q; subst q
    exact ⟨_, rfl, C.now R (by simp only [VR])⟩
  · cases e) (by decide +kernel) hm ha hg (by decide +kernel) (by decide +kernel) he hpl
theorem me_max2 {p : Pos} (hm : X.mg "max" = none) (ha : MA X (e :: es) mas) (hc : X.calm = true := by rfl) (hg : Gl X "max" := by rfl) (he : starEach (e :: es) X.env = (false, eval e X.env) :: starEach es X.env := by rfl) (hpl : (backTo pos (starEach es X.env)).any (·.1) = false := by rfl) :
    ME X (.Call (.Name "max" p) (e :: es) [] pos) (xArgs fMax2 mas) := me_b (call_max2 hc) (fun r w h H xs v us Q R V e C => by
  unfold fMax2 at e
  split at e
  · simp at e; subst e
    obtain ⟨u, u', rfl, q, q'⟩ := vrs2 V
    simp only [VR] at q q'; subst q; subst q'
    exact ⟨_, _, rfl, C.now R (by simp only [VR])⟩
  · cases e) (by decide +kernel) hm ha hg (by decide +kernel) (by decide +kernel) he hpl
theorem me_min2 {p : Pos} (hm : X.mg "min" = none) (ha : MA X (e :: es) mas) (hc : X.calm = true := by rfl) (hg : Gl X "min" := by rfl) (he : starEach (e :: es) X.env = (false, eval e X.env) :: starEach es X.env := by rfl) (hpl : (backTo pos (starEach es X.env)).any (·.1) = false := by rfl) :
    ME X (.Call (.Name "min" p) (e :: es) [] pos) (xArgs fMin2 mas) := me_b (call_min2 hc) (fun r w h H xs v us Q R V e C => by
  unfold fMin2 at e
  split at e
  · simp at e; subst e
    obtain ⟨u, u', rfl, q, q'⟩ := vrs2 V
    simp only [VR] at q q'; subst q; subst q'
    exact ⟨_, _, rfl, C.now R (by simp only [VR])⟩
  · cases e) (by decide +kernel) hm ha hg (by decide +kernel) (by decide +kernel) he hpl
end
end Ew
end

section
set_option Elab.async false
set_option linter.all false
set_option maxRecDepth 100000
set_option maxHeartbeats 4000000
/-! EwE: built-ins, methods, statements, loops, calls. -/
namespace Ew
open PySem PySem.Spec PyProof.Rows L2
variable [Tabs]
section
variable {K : PySem.W.Frag} {X : Cx}
/-- len of a dict with tuple keys, locked or not -/
theorem call_len_dTR : CallR X (.builtin "len") (fun xs H Q => ∃ (p : Addr) (kvs : List (List Key × V)), xs = [.ref p] ∧ Rd H p (.dT kvs) ∧ Q (.int ((kvs.length : Nat) : Int)) H) := by
  intro pins s z H xs us Q I r h
  obtain ⟨p, kvs, rfl, hp, q⟩ := h
  obtain ⟨u, rfl, ru⟩ := vals1 r
  obtain rfl : u = Value.ref p := ru
  obtain ⟨hz, lo, ys, rk, hd⟩ := dt_rd I.hok hp
  have hl : kvs.length = ys.length := Paired.length rk
  refine call_len_dictH lo hd (by rw [sizeLine_eq] at hz; omega) ?_
  exact ⟨.int ((kvs.length : Nat) : Int), H, I.tok _, ⟨_, by rw [hl]⟩, q⟩
theorem call_len_dKR : CallR X (.builtin "len") (fun xs H Q => ∃ (p : Addr) (kvs : List (Key × V)), xs = [.ref p] ∧ Rd H p (.dK kvs) ∧ Q (.int ((kvs.length : Nat) : Int)) H) := by
  intro pins s z H xs us Q I r h
  obtain ⟨a, kvs, rfl, ha, q⟩ := h
  obtain ⟨u, rfl, ru⟩ := vals1 r
  cases ru
  exact d_len I ha fun t s' I' => ⟨.int kvs.length, H, I', ⟨t, rfl⟩, q⟩
end
section
variable {K : PySem.W.Frag} {X : Cx} {e a b c o : Expr} {m ma mb mc mo : XE} {pos p : Pos} {es : List Expr} {mas : XA}
theorem me_len (hm : X.mg "len" = none) (ha : MA X (e :: es) mas) (hg : Gl X "len" := by rfl) (he : starEach (e :: es) X.env = (false, eval e X.env) :: starEach es X.env := by rfl) (hpl : (backTo pos (starEach es X.env)).any (·.1) = false := by rfl) :
    ME X (.Call (.Name "len" p) (e :: es) [] pos) (xArgs fLen mas) := me_b (call_len_seq.or (call_len_dKR.or call_len_dTR)) (fun r w h H xs v us Q R V e C => by
  unfold fLen at e
  split at e
  · rename_i v'
    obtain ⟨u, rfl, q⟩ := vrs1 V
    split at e
    · rename_i ys e1
      simp only [Option.some.injEq] at e; subst e
      obtain ⟨p, ws, rfl, sq, q2⟩ := seq_sq X.K R q e1
      exact .inl ⟨p, ws, rfl, sq, C.now R (by simp only [VR]; rw [VRs.length q2])⟩
    · split at e
      · rename_i kvs e1
        simp only [Option.some.injEq] at e; subst e
        obtain ⟨p, ws, rfl, sq, q2⟩ := dictK_rd R q e1
        exact .inr (.inl ⟨p, ws, rfl, sq, C.now R (by simp only [VR]; rw [VRk.length q2])⟩)
      · split at e
        · rename_i kvs e1
          simp only [Option.some.injEq] at e; subst e
          obtain ⟨p, ws, rfl, sq, q2⟩ := dictT_rd R q e1
          exact .inr (.inr ⟨p, ws, rfl, sq, C.now R (by simp only [VR]; rw [VRt.length q2])⟩)
        · cases e
  · cases e) PySem.boot_len hm ha hg (by decide +kernel) (by decide +kernel) he hpl
/-- tuple(list), the object known -/
theorem call_tupleR : CallR X (.type "tuple") (fun xs H Q => ∃ p ys, xs = [.ref p] ∧ ((SqL X.K H p ys ∧ ∀ (l : Addr) (o : Obj), o.cls = .type "tuple" → o.dict = none → H l = none → Q (.ref l) (upd H l (.frz o (.tup ys)))) ∨ (SqT X.K H p ys ∧ Q (.ref p) H))) := by
  intro pins s σ H xs us Q I r h
  obtain ⟨p, ys, rfl, h⟩ := h
  obtain ⟨u, rfl, rx⟩ := vals1 r
  cases rx
  rcases h with ⟨hq, q⟩ | ⟨hq, q⟩
  · obtain ⟨its, r', pl, hz⟩ := I.list hq
    have hlen := r'.length
    refine call_tuple_list pl.isList (fun h' kp => ?_) (by simp only [List.size_toArray] <;> omega)
    have I1 : Inv X pins σ H { s with heap := h' } := I.kept (t' := s.toks) kp
    have I2 : Inv X pins σ (upd H h'.objs.size (.frz { cls := .type "tuple", data := .seq its.toArray } (.tup ys))) { s with heap := h'.push { cls := .type "tuple", data := .seq its.toArray } } :=
      I1.laid (t' := s.toks) (fun b o e => Heap.get?_push_of_some _ e) (Nat.le_refl _) (show ObjOk X.prog X.w _ _ _ (.frz { cls := .type "tuple", data := .seq its.toArray } (.tup ys)) from ⟨Heap.get?_push_size _ rfl, hz, its, r', IsTup.new _ _⟩)
    exact ⟨.ref h'.objs.size, _, I2, rfl, q _ _ rfl rfl (I1.hok.fresh (Nat.le_refl _))⟩
  · obtain ⟨its, r', pl, hz⟩ := I.tuple hq
    exact call_tuple_same pl ⟨.ref p, H, I, rfl, q⟩
theorem me_tuple (hm : X.mg "tuple" = none) (ha : MA X (e :: es) mas) (hg : Gl X "tuple" := by rfl) (he : starEach (e :: es) X.env = (false, eval e X.env) :: starEach es X.env := by rfl) (hpl : (backTo pos (starEach es X.env)).any (·.1) = false := by rfl) :
    ME X (.Call (.Name "tuple" p) (e :: es) [] pos) (xArgs fTuple mas) := me_t call_tupleR (fun r w h H xs v us Q R V e C => by
  unfold fTuple at e
  split at e
  · obtain ⟨u, rfl, q⟩ := vrs1 V
    simp only [Option.some.injEq] at e; subst e
    have q' := q
    simp only [VR] at q'
    obtain ⟨p, ws, rfl, t, q2⟩ := q'
    exact ⟨p, ws, rfl, .inr ⟨t.sq, C.now R q⟩⟩
  · rename_i v' hne
    obtain ⟨u, rfl, q⟩ := vrs1 V
    cases v' with
    | tup ys => exact absurd rfl (hne ys)
    | row ys =>
      simp only [seqOf, Option.map_some, Option.some.injEq] at e; subst e
      have q' := q
      simp only [VR] at q'
      obtain ⟨p, ws, rfl, t, q2⟩ := q'
      exact ⟨p, ws, rfl, .inr ⟨t.sq, C.now R q⟩⟩
    | _ => exact (fun (e1 : (listOf h _).map MV.row = some v) => by
        cases e2 : listOf h _ with
        | none => rw [e2] at e1; cases e1
        | some ys =>
          rw [e2] at e1
          simp only [Option.map_some, Option.some.injEq] at e1; subst e1
          obtain ⟨p, ws, rfl, sq, q2⟩ := list_sq X.K R q e2
          exact ⟨p, ws, rfl, .inl ⟨sq, fun l o hc hd hl => C.row hc hd R hl q2⟩⟩) (by simpa [seqOf] using e)
  · cases e) (by decide +kernel) hm ha hg (by decide +kernel) (by decide +kernel) he hpl
theorem ints_of {r w : List Addr} {H : Hp} : ∀ {vs : List MV} {us : List V} {bs : List Int}, VRs K r w H vs us → intsOf vs = some bs → us = bs.map V.int
  | [], us, bs, q, e => by
    simp [intsOf] at e; subst e
    simp only [VRs] at q; subst q; rfl
  | v :: vs, us, bs, q, e => by
    simp only [VRs] at q
    obtain ⟨u, t, rfl, q1, q2⟩ := q
    cases v <;> simp only [intsOf, reduceCtorEq] at e
    cases e2 : intsOf vs with
    | none => simp [e2] at e
    | some cs =>
      simp only [e2, Option.map_some, Option.some.injEq] at e; subst e
      simp only [VR] at q1
      rw [q1, ints_of q2 e2]; rfl
theorem tyX_of (K : PySem.W.Frag) {r w : List Addr} {h : MH} {H : Hp} {v : MV} {u : V} {t : String} (R : Rel K r w h H) (q : VR K r w H v u) (e : tyN h v = some t) : TyX K H u (.type t) := by
  cases v <;> simp only [tyN, reduceCtorEq, Option.some.injEq] at e
  · subst e; simp only [VR] at q; subst q; exact .base .non
  · subst e; simp only [VR] at q; subst q; exact .base (.bl _)
  · subst e; simp only [VR] at q; subst q; exact .base (.int _)
  · subst e; simp only [VR] at q; subst q; exact .base (.str _)
  · subst e; simp only [VR] at q; obtain ⟨a, us, rfl, t, _⟩ := q; exact .base (.tup t.2)
  · subst e; simp only [VR] at q; obtain ⟨a, us, rfl, _, t, _⟩ := q; exact .base (.lst t)
  · subst e; simp only [VR] at q; obtain ⟨a, rfl, t⟩ := q
    rcases t with ⟨_, t | ⟨o, t⟩⟩ | ⟨o, its, n, t, c, _⟩
    · exact .base (.lst t)
    · exact .base (.frz t)
    · exact .kList t c
  · subst e; simp only [VR] at q; obtain ⟨a, us, rfl, _, t, _⟩ := q
    rcases t with t | ⟨o, t⟩
    · exact .base (.dK t)
    · exact .fDict t
  · rename_i n
    simp only [VR] at q
    obtain ⟨a, rfl, hn⟩ := q
    cases e1 : h[n]? with
    | none => simp [e1] at e
    | some c =>
      have hc := R.at_ n a c hn e1
      cases c <;> simp only [e1, reduceCtorEq, Option.some.injEq] at e <;> subst e <;> simp only [CRel] at hc
      · obtain ⟨us, t, _⟩ := hc; exact .base (.lst t)
      · obtain ⟨us, t, _⟩ := hc; exact .base (.dK t)
      · obtain ⟨us, t, _⟩ := hc; exact .base (.dT t)
      · obtain ⟨o, us, t, _⟩ := hc; exact .fDict t
  · subst e; simp only [VR] at q; obtain ⟨a, us, rfl, t, _⟩ := q
    rcases t with ⟨_, o, _, _, t⟩ | ⟨o, its, n, t, c, _⟩
    · exact .fTuple t
    · exact .kTuple t c
/-- isinstance(e, t), t a built-in type -/
theorem me_isi {t : Str} {tn : String} {p1 p2 : Pos} (hm : X.mg "isinstance" = none) (he : ME X e m) (hm2 : X.mg t = none) (hv2 : bootBuiltins t = some (.type tn)) (hk : ∀ x ∈ ["NoneType", "bool", "int", "str", "tuple", "list", "dict"], kitB x tn = some (subTy x tn))
    (hg : Gl X "isinstance" := by rfl) (hg2 : Gl X t := by rfl) (hn2 : t ≠ "__name__" := by decide +kernel) (hd2 : (t == ("__debug__" : Str)) = false := by decide +kernel)
    (hs : starEach (e :: [.Name t p2]) X.env = (false, eval e X.env) :: starEach [.Name t p2] X.env := by rfl) : ME X (.Call (.Name "isinstance" p1) [e, .Name t p2] [] pos) (xArgs (fIsi tn) (xCons m xNil)) :=
  PE.wk (pe_callB call_isi hg hm (by decide +kernel) (pa_cons he (pa_cons (pe_bltn (v := .ty tn) hg2 hm2 hv2 rfl hn2 hd2) pa_nil) hs) (by decide +kernel) (by decide +kernel) hs) fun z H Q ⟨r, w, s, h, v, h', R, S, e, C⟩ => by
  obtain ⟨xs, e1, e2⟩ := xArgs_at e
  obtain ⟨x, h1, ys, e3, e4, rfl⟩ := xCons_at e1
  simp only [xNil, Option.some.injEq, Prod.mk.injEq] at e4
  obtain ⟨rfl, rfl⟩ := e4
  refine ⟨r, w, s, h, x, h1, R, S, e3, fun r1 u1 H1 F1 R1 V1 => ?_⟩
  simp only [fIsi] at e2
  split at e2
  · rename_i a e5
    simp only [Option.some.injEq] at e2; subst e2
    refine ⟨u1, .ty tn, .type a, .type tn, subTy a tn, rfl, .ty tn, tyX_of X.K R1 V1 e5, kit_ty (hk a ?_), C r1 _ H1 F1 R1 (by simp only [VR])⟩
    unfold tyN at e5
    split at e5 <;> first | (simp only [Option.some.injEq] at e5; subst e5; decide) | cases e5 | skip
    split at e5 <;> first | (simp only [Option.some.injEq] at e5; subst e5; decide) | cases e5
  · cases e2
theorem me_neg (ha : ME X a ma) : ME X (.UnaryOp .USub a pos) (xUn opNeg ma) := PE.wk (pe_un un_neg ha) fun z H Q ⟨r, w, s, h, v, h', R, S, e, C⟩ => by
  unfold xUn at e
  cases e1 : ma s h with
  | none => simp [e1] at e
  | some p1 =>
    obtain ⟨x, h1⟩ := p1
    simp only [e1] at e
    cases x <;> simp only [opNeg, reduceCtorEq, Option.some.injEq, Prod.mk.injEq] at e
    obtain ⟨rfl, rfl⟩ := e
    exact ⟨r, w, s, h, _, h1, R, S, e1, fun r1 u H1 F1 R1 V1 => by
      simp only [VR] at V1
      exact ⟨_, V1, C r1 _ H1 F1 R1 (by simp only [VR])⟩⟩
/-! ### and, or, not, if -/
theorem me_and {rest : List Expr} (ha : ME X a ma) (hb : ME X (.BoolOp .And (b :: rest) pos) mb) : ME X (.BoolOp .And (a :: b :: rest) pos) (xAnd ma mb) := PE.wk (pe_and ha hb) fun z H Q ⟨r, w, s, h, v, h', R, S, e, C⟩ => by
  unfold xAnd at e
  split at e
  · rename_i h1 e1
    exact ⟨r, w, s, h, _, h1, R, S, e1, fun r1 u H1 F1 R1 V1 => by
      simp only [VR] at V1
      exact ⟨true, V1, iteT ⟨r1, w, s, h1, v, h', R1, S.fwd F1, e, C.fwd F1 R1⟩⟩⟩
  · rename_i h1 e1
    simp only [Option.some.injEq, Prod.mk.injEq] at e
    obtain ⟨rfl, rfl⟩ := e
    exact ⟨r, w, s, h, _, h1, R, S, e1, fun r1 u H1 F1 R1 V1 => by
      simp only [VR] at V1
      exact ⟨false, V1, iteF (C r1 _ H1 F1 R1 (by simp only [VR]))⟩⟩
  · cases e
theorem me_one {op} (ha : ME X a ma) : ME X (.BoolOp op [a] pos) ma := pe_one ha
theorem me_not (ha : ME X a ma) : ME X (.UnaryOp .Not a pos) (xNot ma) := PE.wk (pe_not ha) fun z H Q ⟨r, w, s, h, v, h', R, S, e, C⟩ => by
  unfold xNot at e
  split at e
  · rename_i k h1 e1
    simp only [Option.some.injEq, Prod.mk.injEq] at e
    obtain ⟨rfl, rfl⟩ := e
    exact ⟨r, w, s, h, _, h1, R, S, e1, fun r1 u H1 F1 R1 V1 => by
      simp only [VR] at V1
      exact ⟨k, V1, C r1 _ H1 F1 R1 (by simp only [VR])⟩⟩
  · cases e
variable {ta tb tc : XT}
theorem mw_and1 (ha : MT X a ta) : MW X (.BoolOp .And [a] pos) ta := pw_and1 ha
theorem mw_or1 (ha : MT X a ta) : MW X (.BoolOp .Or [a] pos) ta := pw_or1 ha
theorem mw_and {rest : List Expr} (ha : MT X a ta) (hb : MW X (.BoolOp .And (b :: rest) pos) tb) : MW X (.BoolOp .And (a :: b :: rest) pos) (xAndT ta tb) := PW.wk (pw_and ha hb) fun z H Q ⟨r, w, s, h, v, h', R, S, e, C⟩ => by
  unfold xAndT at e
  split at e
  · cases e
  · rename_i h1 e1
    exact ⟨r, w, s, h, _, h1, R, S, e1, fun r1 H1 F1 R1 => iteT ⟨r1, w, s, h1, v, h', R1, S.fwd F1, e, fun r2 H2 F2 R2 => C r2 H2 (F1.tr R1 F2) R2⟩⟩
  · rename_i h1 e1
    simp only [Option.some.injEq, Prod.mk.injEq] at e
    obtain ⟨rfl, rfl⟩ := e
    exact ⟨r, w, s, h, _, h1, R, S, e1, fun r1 H1 F1 R1 => iteF (C r1 H1 F1 R1)⟩
theorem mw_or {rest : List Expr} (ha : MT X a ta) (hb : MW X (.BoolOp .Or (b :: rest) pos) tb) : MW X (.BoolOp .Or (a :: b :: rest) pos) (xOrT ta tb) := PW.wk (pw_or ha hb) fun z H Q ⟨r, w, s, h, v, h', R, S, e, C⟩ => by
  unfold xOrT at e
  split at e
  · cases e
  · rename_i h1 e1
    simp only [Option.some.injEq, Prod.mk.injEq] at e
    obtain ⟨rfl, rfl⟩ := e
    exact ⟨r, w, s, h, _, h1, R, S, e1, fun r1 H1 F1 R1 => iteT (C r1 H1 F1 R1)⟩
  · rename_i h1 e1
    exact ⟨r, w, s, h, _, h1, R, S, e1, fun r1 H1 F1 R1 => iteF ⟨r1, w, s, h1, v, h', R1, S.fwd F1, e, fun r2 H2 F2 R2 => C r2 H2 (F1.tr R1 F2) R2⟩⟩
theorem mt_not (ha : MT X a ta) : MT X (.UnaryOp .Not a pos) (xNotT ta) := PT.wk (pt_not ha) fun z H Q ⟨r, w, s, h, v, h', R, S, e, C⟩ => by
  unfold xNotT at e
  cases e1 : ta s h with
  | none => simp [e1] at e
  | some p1 =>
    obtain ⟨k, h1⟩ := p1
    simp only [e1, Option.some.injEq, Prod.mk.injEq] at e
    obtain ⟨rfl, rfl⟩ := e
    exact ⟨r, w, s, h, _, h1, R, S, e1, fun r1 H1 F1 R1 => C r1 H1 F1 R1⟩
/-! ### slices -/
theorem mo_none : MO X none xNoPart := ⟨fun pins s z H Q I ⟨r, w, s', h, v, h', R, S, e, C⟩ => po_none.run pins s z H Q I (by
  simp only [xNoPart, Option.some.injEq, Prod.mk.injEq] at e
  obtain ⟨rfl, rfl⟩ := e
  exact C r H (Fwd.refl r H) R)⟩
theorem mo_some (he : ME X e m) : MO X (some e) (xPart m) := ⟨fun pins s z H Q I ⟨r, w, s', h, v, h', R, S, e, C⟩ => (po_some he).run pins s z H Q I (by
  unfold xPart at e
  split at e
  · rename_i i h1 e1
    simp only [Option.some.injEq, Prod.mk.injEq] at e
    obtain ⟨rfl, rfl⟩ := e
    exact ⟨r, w, s', h, _, h1, R, S, e1, fun r1 u H1 F1 R1 V1 => by
      simp only [VR] at V1
      exact ⟨i, V1, C r1 H1 F1 R1⟩⟩
  · cases e)⟩
theorem mf_slL {lo hi : Option Expr} {ml mh : XO} {p2 : Pos} (he : ME X e m) (hl : MO X lo ml) (hh : MO X hi mh) : MF X (.Subscript e (.Slice lo hi none p2) pos) (xSlL m ml mh) := PE.wk (pe_slice sl_list he hl hh) fun z H Q ⟨r, w, s, h, v, h', R, S, e, C⟩ => by
  unfold xSlL at e
  cases e1 : m s h with
  | none => simp [e1] at e
  | some p1 =>
    obtain ⟨x, h1⟩ := p1
    simp only [e1] at e
    cases e2 : ml s h1 with
    | none => simp [e2] at e
    | some p2 =>
      obtain ⟨l, h2⟩ := p2
      simp only [e2] at e
      cases e3 : mh s h2 with
      | none => simp [e3] at e
      | some p3 =>
        obtain ⟨u, h3⟩ := p3
        simp only [e3] at e
        cases e4 : listOf h3 x with
        | none => simp [e4] at e
        | some xs =>
          simp only [e4, Option.some.injEq, Prod.mk.injEq] at e
          obtain ⟨rfl, rfl⟩ := e
          refine ⟨r, w, s, h, x, h1, R, S, e1, fun r1 u1 H1 F1 R1 V1 => ⟨r1, w, s, h1, l, h2, R1, S.fwd F1, e2, fun r2 H2 F2 R2 => ⟨r2, w, s, h2, u, h3, R2, (S.fwd F1).fwd F2, e3, fun r3 H3 F3 R3 => ?_⟩⟩⟩
          obtain ⟨p, us, rfl, sq, q⟩ := list_sq X.K R3 (VR.fwd F3 _ _ (VR.fwd F2 _ _ V1)) e4
          refine ⟨p, us, rfl, sq, fun l' hl' => (((C.fwd F1 R1).fwd F2 R2).fwd F3 R3).lst R3 hl' ?_⟩
          show VRs X.K r3 w H3 (cutM xs l u) (cutV us l u)
          unfold cutM cutV
          rw [← VRs.length q]
          exact VRs.take _ (VRs.drop _ q)
/-! ### methods of lists -/
theorem ref_at {r w : List Addr} {h : MH} {H : Hp} {n : Nat} {u : V} {xs : List MV} (R : Rel K r w h H) (q : VR K r w H (.ref n) u) (e : h[n]? = some (.lst xs)) : ∃ a us, u = .ref a ∧ r[n]? = some a ∧ H a = some (.lst us) ∧ VRs K r w H xs us := by
  simp only [VR] at q
  obtain ⟨a, rfl, hn⟩ := q
  have hc := R.at_ n a _ hn e
  simp only [CRel] at hc
  obtain ⟨us, h1, h2⟩ := hc
  exact ⟨a, us, rfl, hn, h1, h2⟩
theorem put_lst {r w : List Addr} {h : MH} {H : Hp} {n : Nat} {a : Addr} {xs : List MV} {us : List V} {v : MV} {u : V} {Q : VK} (R : Rel K r w h H) (hn : r[n]? = some a) (q : VRs K r w H xs us) (hv : VR K r w H v u) (C : Cont K r w (h.set n (.lst xs)) H v Q) (nf : ∀ ob u, H a ≠ some (.frz ob u)) : Q u (upd H a (.lst us)) :=
  C r u _ (Fwd.put hn _ nf) (R.put hn (c := .lst xs) (by simp only [CRel]; exact ⟨us, upd_same, VRs.map (Stp.put hn _) _ _ q⟩)) (VR.map (Stp.put hn _) _ _ hv)
theorem szl : szLine = sizeLine := by rw [sizeLine_eq]; rfl
theorem lst_here {r w : List Addr} {h : MH} {H : Hp} {n : Nat} {u : V} (R : Rel K r w h H) (q : VR K r w H (.ref n) u) (e : isLstC h n = true) : ∃ a us, u = .ref a ∧ H a = some (.lst us) := by
  unfold isLstC at e
  split at e
  · rename_i xs e1
    obtain ⟨a, us, e2, _, e3, _⟩ := ref_at R q e1
    exact ⟨a, us, e2, e3⟩
  · cases e
theorem me_append {apos : Pos} (ho : ME X o mo) (he : ME X e m) (hbase : attributeBase o "append" X.env (eval o X.env) = eval o X.env := by rfl)
    (hfew : ((backTo pos (starEach [e] X.env)).all (fun x => !x.1) && (backToKw pos (keywordEach [] X.env)).all (fun x => x.1.isSome) && decide ([e].length + ([] : List Keyword).length + (if ([] : List Keyword).isEmpty then 0 else 1) < 30)) = true := by rfl)
    (hline : (apos.endLine == pos.line) = true := by rfl) (hs : starEach (e :: []) X.env = (false, eval e X.env) :: starEach [] X.env := by rfl) (hpl : (backTo pos (starEach [] X.env)).any (·.1) = false := by rfl) :
    ME X (.Call (.Attribute o "append" apos) [e] [] pos) (xAppend mo m) := PE.wk (pe_bm PySem.F.plainAttrs_list PySem.F.slot_list_append PySem.F.type_list_append mt_append ho (pa_cons he pa_nil hs) hbase hfew hline hs hpl) fun z H Q ⟨r, w, s, h, v, h', R, S, e, C⟩ => by
  unfold xAppend at e
  split at e
  · rename_i n h1 e1
    split at e
    · rename_i hL
      split at e
      · rename_i y h2 e2
        split at e
        · rename_i xs e3
          split at e
          · rename_i hl
            simp only [Option.some.injEq, Prod.mk.injEq] at e
            obtain ⟨rfl, rfl⟩ := e
            refine ⟨r, w, s, h, _, h1, R, S, e1, fun r1 u1 H1 F1 R1 V1 => ?_⟩
            obtain ⟨a, us0, rfl, hL1⟩ := lst_here R1 V1 hL
            refine ⟨.inl ⟨rfl, _, SqL.of hL1⟩, r1, w, s, h1, y, h2, R1, S.fwd F1, e2, fun r2 u2 H2 F2 R2 V2 => ?_⟩
            obtain ⟨a', us, e4, hn2, ha, q⟩ := ref_at R2 (VR.fwd F2 _ _ V1) e3
            cases e4
            refine ⟨a, us, u2, rfl, rfl, ha, ?_, put_lst R2 hn2 (VRs.append q (VRs.one V2)) (by simp only [VR]) ((C.fwd F1 R1).fwd F2 R2) (fun _ _ z => by rw [ha] at z; cases z)⟩
            rw [← VRs.length q, ← szl]; exact hl
          · cases e
        · cases e
      · cases e
    · cases e
  · cases e
theorem me_popAt {apos : Pos} (ho : ME X o mo) (he : ME X e m) (hbase : attributeBase o "pop" X.env (eval o X.env) = eval o X.env := by rfl)
    (hfew : ((backTo pos (starEach [e] X.env)).all (fun x => !x.1) && (backToKw pos (keywordEach [] X.env)).all (fun x => x.1.isSome) && decide ([e].length + ([] : List Keyword).length + (if ([] : List Keyword).isEmpty then 0 else 1) < 30)) = true := by rfl)
    (hline : (apos.endLine == pos.line) = true := by rfl) (hs : starEach (e :: []) X.env = (false, eval e X.env) :: starEach [] X.env := by rfl) (hpl : (backTo pos (starEach [] X.env)).any (·.1) = false := by rfl) :
    ME X (.Call (.Attribute o "pop" apos) [e] [] pos) (xPopAt mo m) := PE.wk (pe_bm PySem.F.plainAttrs_list PySem.F.slot_list_pop PySem.F.type_list_pop mt_popAt ho (pa_cons he pa_nil hs) hbase hfew hline hs hpl) fun z H Q ⟨r, w, s, h, v, h', R, S, e, C⟩ => by
  unfold xPopAt at e
  split at e
  · rename_i n h1 e1
    split at e
    · rename_i hL
      split at e
      · rename_i i h2 e2
        split at e
        · rename_i xs e3
          split at e
          · rename_i hl
            split at e
            · rename_i j e4
              split at e
              · rename_i y e5
                simp only [Option.some.injEq, Prod.mk.injEq] at e
                obtain ⟨rfl, rfl⟩ := e
                refine ⟨r, w, s, h, _, h1, R, S, e1, fun r1 u1 H1 F1 R1 V1 => ?_⟩
                obtain ⟨a, us0, rfl, hL1⟩ := lst_here R1 V1 hL
                refine ⟨.inl ⟨rfl, _, SqL.of hL1⟩, r1, w, s, h1, _, h2, R1, S.fwd F1, e2, fun r2 u2 H2 F2 R2 V2 => ?_⟩
                obtain ⟨a', us, e6, hn2, ha, q⟩ := ref_at R2 (VR.fwd F2 _ _ V1) e3
                cases e6
                simp only [VR] at V2
                subst V2
                obtain ⟨u, q1, q2⟩ := VRs.get q e5
                refine ⟨a, us, i, j, u, rfl, rfl, ha, by omega, by omega, ?_, q1, put_lst R2 hn2 (VRs.eraseIdx j q) q2 ((C.fwd F1 R1).fwd F2 R2) (fun _ _ z => by rw [ha] at z; cases z)⟩
                rw [← VRs.length q]
                exact (ixN_seq (show ixN xs.length i = some j from e4)).1
              · cases e
            · cases e
          · cases e
        · cases e
      · cases e
    · cases e
  · cases e
end
end Ew
end

section
set_option Elab.async false
set_option linter.all false
set_option maxRecDepth 100000
set_option maxHeartbeats 4000000
/-! EwF: statements, loops, comprehensions, defs. -/
namespace Ew
open PySem PySem.Spec PyProof.Rows L2
variable [Tabs]
section
variable {K : PySem.W.Frag} {X : Cx} {e a b c o i : Expr} {m ma mb mc mo mi : XE} {pos p : Pos} {es : List Expr} {mas : XA} {st : Stmt} {sts sts2 : List Stmt} {x y : XS} {ta : XT} {g : XG} {gs : XGs} {tg : Expr}
theorem ms_nil : MSs X [] sNext := PSs.wk pss_nil fun D z H ⟨r, w, s, h, f, s', h', R, S, e, C⟩ => by
  simp only [sNext, Option.some.injEq, Prod.mk.injEq] at e
  obtain ⟨rfl, rfl, rfl⟩ := e
  exact ContS.now C R S
theorem ms_one (h : MS X st x) : MSs X [st] x := pss_one h
theorem ms_cons (h1 : MS X st x) (h2 : MSs X sts y) : MSs X (st :: sts) (sSeq x y) := PSs.wk (pss_cons h1 h2) fun D z H ⟨r, w, s, h, f, s', h', R, S, e, C⟩ => by
  unfold sSeq at e
  cases e1 : x s h with
  | none => simp [e1] at e
  | some p1 =>
    obtain ⟨f1, s1, h1⟩ := p1
    cases f1 with
    | nx =>
      simp only [e1] at e
      exact ⟨r, w, s, h, .nx, s1, h1, R, S, e1, fun r1 z1 H1 F1 R1 S1 => ⟨r1, w, s1, h1, f, s', h', R1, S1, e, EndS.fwd C F1 R1⟩⟩
    | rt v =>
      simp only [e1, Option.some.injEq, Prod.mk.injEq] at e
      obtain ⟨rfl, rfl, rfl⟩ := e
      exact ⟨r, w, s, h, .rt v, s1, h1, R, S, e1, C⟩
    | bk =>
      simp only [e1, Option.some.injEq, Prod.mk.injEq] at e
      obtain ⟨rfl, rfl, rfl⟩ := e
      exact ⟨r, w, s, h, .bk, s1, h1, R, S, e1, C⟩
    | ct =>
      simp only [e1, Option.some.injEq, Prod.mk.injEq] at e
      obtain ⟨rfl, rfl, rfl⟩ := e
      exact ⟨r, w, s, h, .ct, s1, h1, R, S, e1, C⟩
theorem ms_expr (he : ME X e m) (hs : swapsWith e none pos.line X.env = pure false := by rfl) : MS X (.Expr e pos) (sExpr m) := PS.wk (ps_expr he hs) fun D z H ⟨r, w, s, h, f, s', h', R, S, e, C⟩ => by
  unfold sExpr at e
  cases e1 : m s h with
  | none => simp [e1] at e
  | some p1 =>
    obtain ⟨v, h1⟩ := p1
    simp only [e1, Option.some.injEq, Prod.mk.injEq] at e
    obtain ⟨rfl, rfl, rfl⟩ := e
    exact ⟨r, w, s, h, v, h1, R, S, e1, fun r1 u H1 F1 R1 V1 => C r1 z H1 F1 R1 (S.fwd F1)⟩
theorem ms_ret (he : ME X e m) : MS X (.Return (some e) pos) (sRet m) := PS.wk (ps_ret he) fun D z H ⟨r, w, s, h, f, s', h', R, S, e, C⟩ => by
  unfold sRet at e
  cases e1 : m s h with
  | none => simp [e1] at e
  | some p1 =>
    obtain ⟨v, h1⟩ := p1
    simp only [e1, Option.some.injEq, Prod.mk.injEq] at e
    obtain ⟨rfl, rfl, rfl⟩ := e
    exact ⟨r, w, s, h, v, h1, R, S, e1, C⟩
theorem ms_if (hc : MT X c ta) (h1 : MSs X sts x) (h2 : MSs X sts2 y) : MS X (.If c sts sts2 pos) (sIf ta x y) := PS.wk (ps_if hc h1 h2) fun D z H ⟨r, w, s, h, f, s', h', R, S, e, C⟩ => by
  unfold sIf at e
  split at e
  · cases e
  · rename_i h1 e1
    exact ⟨r, w, s, h, _, h1, R, S, e1, fun r1 H1 F1 R1 => iteT ⟨r1, w, s, h1, f, s', h', R1, S.fwd F1, e, EndS.fwd C F1 R1⟩⟩
  · rename_i h1 e1
    exact ⟨r, w, s, h, _, h1, R, S, e1, fun r1 H1 F1 R1 => iteF ⟨r1, w, s, h1, f, s', h', R1, S.fwd F1, e, EndS.fwd C F1 R1⟩⟩
/-! ### targets -/
theorem PG.wk {t t' : TG} (h : PG X e t) (k : ∀ v z H Q, t' v z H Q → t v z H Q) : PG X e t' := ⟨fun pins s z H v u Q I r q => h.run pins s z H v u Q I r (k v z H Q q)⟩
theorem PGs.wk {t t' : TGs} (h : PGs X es t) (k : ∀ v z H Q, t' v z H Q → t v z H Q) : PGs X es t' := ⟨fun pins s z H v u Q I r q => h.run pins s z H v u Q I r (k v z H Q q)⟩
theorem mg_nm {n : Nat} {t : Str} (hN : X.N.Nodup) (hi : X.N[n]? = some t := by rfl) (hx : Loc X.env.scope t := by first | exact .inl rfl | exact .inr rfl) (hf : X.fn t = true ∨ X.env.scope.names.lookup t = some .local := by first | exact .inl rfl | exact .inr rfl) : MG X (.Name t pos) (gNm n) :=
  PG.wk (pg_name hN hi hx hf) fun u z H Q ⟨r, w, s, h, v, s', h', R, S, V, e, C⟩ => by
  simp only [gNm, Option.some.injEq, Prod.mk.injEq] at e
  obtain ⟨rfl, rfl⟩ := e
  exact C.now R (S.set n V)
theorem mgs_nil : MGs X [] gsNil := PGs.wk pgs_nil fun u z H Q ⟨r, w, s, h, v, s', h', R, S, V, e, C⟩ => by
  unfold gsNil at e
  split at e
  · simp only [Option.some.injEq, Prod.mk.injEq] at e
    obtain ⟨rfl, rfl⟩ := e
    simp only [VRs] at V
    exact ⟨V, C.now R S⟩
  · cases e
theorem mgs_cons (h1 : MG X e g) (h2 : MGs X es gs) (hs : (assignEach (e :: es) X.env).map (·.2) = assign e X.env :: (assignEach es X.env).map (·.2) := by rfl) : MGs X (e :: es) (gsCons g gs) := PGs.wk (pgs_cons h1 h2 hs) fun u z H Q ⟨r, w, s, h, v, s', h', R, S, V, e, C⟩ => by
  unfold gsCons at e
  split at e
  · rename_i v1 vs
    cases e1 : g v1 s h with
    | none => simp [e1] at e
    | some p1 =>
      obtain ⟨s1, h1⟩ := p1
      simp only [e1] at e
      simp only [VRs] at V
      obtain ⟨u1, t, rfl, V1, V2⟩ := V
      exact ⟨u1, t, rfl, r, w, s, h, v1, s1, h1, R, S, V1, e1, fun r1 z1 H1 F1 R1 S1 => ⟨r1, w, s1, h1, vs, s', h', R1, S1, VRs.fwd F1 _ _ V2, e, C.fwd F1 R1⟩⟩
  · cases e
theorem mg_tup {k n : Nat} (h : MGs X es gs) (hn : (assignEach es X.env).length = n := by rfl) (hst : (assignEach es X.env).findIdx? (·.1) = none := by rfl) (hc : X.calm = true := by rfl) : MG X (.Tuple es k pos) (gTp n gs) := PG.wk (pg_tup hc h hn hst) fun u z H Q ⟨r, w, s, h, v, s', h', R, S, V, e, C⟩ => by
  unfold gTp at e
  split at e
  · rename_i xs
    split at e
    · rename_i hl
      simp only [VR] at V
      obtain ⟨p, us, rfl, t, q⟩ := V
      exact ⟨p, us, rfl, t.sq, by rw [← VRs.length q]; exact hl, r, w, s, h, xs, s', h', R, S, q, e, C⟩
    · cases e
  · rename_i xs
    split at e
    · rename_i hl
      simp only [VR] at V
      obtain ⟨p, us, rfl, t, q⟩ := V
      exact ⟨p, us, rfl, t.sq, by rw [← VRs.length q]; exact hl, r, w, s, h, xs, s', h', R, S, q, e, C⟩
    · cases e
  · cases e
theorem ms_asg (he : ME X e m) (hg : MG X tg g) (hs : swapsWithSole [tg] e pos.line X.env = pure false := by rfl) (hw : swappedStores [tg] e X.env = pure none := by rfl) (h1 : (assignEach [tg] X.env).map (·.2) = [assign tg X.env] := by rfl) : MS X (.Assign [tg] e pos) (sAsg m g) := PS.wk (ps_asg he hg hs hw h1) fun D z H ⟨r, w, s, h, f, s', h', R, S, e, C⟩ => by
  unfold sAsg at e
  cases e1 : m s h with
  | none => simp [e1] at e
  | some p1 =>
    obtain ⟨v, h1⟩ := p1
    simp only [e1] at e
    cases e2 : g v s h1 with
    | none => simp [e2] at e
    | some p2 =>
      obtain ⟨s1, h2⟩ := p2
      simp only [e2, Option.some.injEq, Prod.mk.injEq] at e
      obtain ⟨rfl, rfl, rfl⟩ := e
      exact ⟨r, w, s, h, v, h1, R, S, e1, fun r1 u H1 F1 R1 V1 => ⟨r1, w, s, h1, v, _, _, R1, S.fwd F1, V1, e2, ContS.fwd C F1 R1⟩⟩
/-- o[k] = e -/
theorem stM_lst {r w : List Addr} {h h' : MH} {H : Hp} {d k v : MV} {u1 u2 u3 : V} {Q : Hp → Prop} (R : Rel K r w h H) (V1 : VR K r w H d u1) (V2 : VR K r w H k u2) (V3 : VR K r w H v u3) (e : stM h d k v = some h')
    (C : ∀ r' H', Fwd r H r' H' → Rel K r' w h' H' → Q H') : (∃ p us i j, u1 = .ref p ∧ u2 = .int i ∧ H p = some (.lst us) ∧ ixN us.length i = some j ∧ Q (upd H p (.lst (us.set j u3)))) ∨ ∃ a H4, u1 = .ref a ∧ DPut H a u2 u3 H4 ∧ Q H4 := by
  unfold stM at e
  split at e
  · rename_i n
    simp only [VR] at V1
    obtain ⟨a, rfl, hn⟩ := V1
    split at e
    · rename_i xs e1
      have hc := R.at_ n a _ hn e1
      simp only [CRel] at hc
      obtain ⟨us, ha, q⟩ := hc
      split at e
      · rename_i i
        split at e
        · rename_i j e2
          simp only [Option.some.injEq] at e; subst e
          simp only [VR] at V2
          refine .inl ⟨a, us, i, j, rfl, V2, ha, by rw [← VRs.length q]; exact e2, C r _ (Fwd.put hn _ (fun _ _ z => by rw [ha] at z; cases z)) (R.put hn (c := .lst _) ?_)⟩
          simp only [CRel]
          exact ⟨_, upd_same, VRs.set j (VRs.map (Stp.put hn _) _ _ q) (VR.map (Stp.put hn _) _ _ V3)⟩
        · cases e
      · cases e
    · rename_i kvs e1
      have hc := R.at_ n a _ hn e1
      simp only [CRel] at hc
      obtain ⟨us, ha, q⟩ := hc
      split at e
      · rename_i kk e2
        split at e
        · rename_i hl
          simp only [Option.some.injEq] at e; subst e
          have := key_kV V2 e2
          subst this
          refine .inr ⟨a, _, rfl, .inl ⟨us, kk, ha, rfl, by rw [← VRk.length q, ← szl]; exact hl, rfl⟩, C r _ (Fwd.put hn _ (fun _ _ z => by rw [ha] at z; cases z)) (R.put hn (c := .dK _) ?_)⟩
          simp only [CRel]
          exact ⟨_, upd_same, VRk.put kk (VR.map (Stp.put hn _) _ _ V3) (VRk.map (Stp.put hn _) _ _ q)⟩
        · cases e
      · cases e
    · rename_i kvs e1
      have hc := R.at_ n a _ hn e1
      simp only [CRel] at hc
      obtain ⟨us, ha, q⟩ := hc
      split at e
      · rename_i ks
        split at e
        · rename_i kk e2
          split at e
          · rename_i hl
            simp only [Option.some.injEq] at e; subst e
            simp only [VR] at V2
            obtain ⟨b, ws, rfl, t, q2⟩ := V2
            have := keys_kV q2 e2
            subst this
            refine .inr ⟨a, _, rfl, .inr ⟨us, kk, b, ha, rfl, t.2, by rw [← VRt.length q, ← szl]; exact hl, rfl⟩, C r _ (Fwd.put hn _ (fun _ _ z => by rw [ha] at z; cases z)) (R.put hn (c := .dT _) ?_)⟩
            simp only [CRel]
            exact ⟨_, upd_same, VRt.put kk (VR.map (Stp.put hn _) _ _ V3) (VRt.map (Stp.put hn _) _ _ q)⟩
          · cases e
        · cases e
      · cases e
    · cases e
  · cases e
theorem ms_put {k : Nat} {tpos : Pos} (hr : Room k X.A) (ho : ME X o mo) (hi : ME X i mi) (he : ME X e m) (hs : swapsWithSole [.Subscript o i tpos] e pos.line X.env = pure false := by rfl) (hw : swappedStores [.Subscript o i tpos] e X.env = pure none := by rfl)
    (ha : ∀ v, assign (.Subscript o i tpos) X.env v = (do
      let ov ← holding [v] (eval o X.env)
      let iv ← holding [v, ov] (eval i X.env)
      standAt tpos
      holding [v, ov, iv] (setItem ov iv v)
      release [v, ov, iv] []) := by intro _; rfl) (hs2 : swapsWith e (some (.Subscript o i tpos)) pos.line X.env = pure false := by rfl) : MS X (.Assign [.Subscript o i tpos] e pos) (sPut mo mi m) :=
  PS.wk (PS.or2 (ps_asg he (pg_sub ho hi set_list ha) hs hw) (ps_dput (hu_of hr) ho hi he hs2)) fun D z H ⟨r, w, s, h, f, s', h', R, S, e, C⟩ => by
  unfold sPut at e
  cases e1 : m s h with
  | none => simp [e1] at e
  | some p1 =>
    obtain ⟨v, h1⟩ := p1
    simp only [e1] at e
    cases e2 : mo s h1 with
    | none => simp [e2] at e
    | some p2 =>
      obtain ⟨d, h2⟩ := p2
      simp only [e2] at e
      cases e3 : mi s h2 with
      | none => simp [e3] at e
      | some p3 =>
        obtain ⟨kk, h3⟩ := p3
        simp only [e3] at e
        cases e4 : stM h3 d kk v with
        | none => simp [e4] at e
        | some h4 =>
          simp only [e4, Option.some.injEq, Prod.mk.injEq] at e
          obtain ⟨rfl, rfl, rfl⟩ := e
          -- which of the two rules, by the cell
          have key : ∀ r3 H3 u1 u2 u3, Fwd r H r3 H3 → Rel X.K r3 w h3 H3 → VR X.K r3 w H3 d u1 → VR X.K r3 w H3 kk u2 → VR X.K r3 w H3 v u3 → (rSetL u1 u2 u3 H3 fun H4 => D.nx z H4) ∨ ∃ a H4, u1 = .ref a ∧ DPut H3 a u2 u3 H4 ∧ D.nx z H4 := fun r3 H3 u1 u2 u3 F3 R3 V1 V2 V3 => by
            rcases stM_lst (Q := fun H4 => D.nx z H4) R3 V1 V2 V3 e4 (fun r4 H4 F4 R4 => C r4 z H4 (F3.tr R3 F4) R4 (S.fwd (F3.tr R3 F4))) with ⟨p, us, i, j, h1, h2, h3, h4, h5⟩ | q
            · exact .inl ⟨p, us, i, j, h1, h2, h3, h4, h5⟩
            · exact .inr q
          by_cases isL : ∃ n xs, d = .ref n ∧ h3[n]? = some (.lst xs)
          · refine .inl ⟨r, w, s, h, v, h1, R, S, e1, fun r1 u3 H1 F1 R1 V3 => ⟨r1, w, s, h1, d, h2, R1, S.fwd F1, e2, fun r2 u1 H2 F2 R2 V1 => ⟨r2, w, s, h2, kk, h3, R2, (S.fwd F1).fwd F2, e3, fun r3 u2 H3 F3 R3 V2 => ?_⟩⟩⟩
            rcases key r3 H3 u1 u2 u3 ((F1.tr R1 F2).tr R2 F3) R3 (VR.fwd F3 _ _ V1) V2 (VR.fwd F3 _ _ (VR.fwd F2 _ _ V3)) with q | ⟨a, H4, rfl, q, _⟩
            · exact q
            · obtain ⟨n, xs, rfl, e5⟩ := isL
              obtain ⟨a', us, e6, _, ha, _⟩ := ref_at R3 (VR.fwd F3 _ _ V1) e5
              cases e6
              rcases q with ⟨_, _, q, _⟩ | ⟨_, _, _, q, _⟩ <;> (rw [ha] at q; cases q)
          · refine .inr ⟨r, w, s, h, v, h1, R, S, e1, fun r1 u3 H1 F1 R1 V3 => ⟨r1, w, s, h1, d, h2, R1, S.fwd F1, e2, fun r2 u1 H2 F2 R2 V1 => ⟨r2, w, s, h2, kk, h3, R2, (S.fwd F1).fwd F2, e3, fun r3 u2 H3 F3 R3 V2 => ?_⟩⟩⟩
            rcases key r3 H3 u1 u2 u3 ((F1.tr R1 F2).tr R2 F3) R3 (VR.fwd F3 _ _ V1) V2 (VR.fwd F3 _ _ (VR.fwd F2 _ _ V3)) with ⟨p, us, i, j, h1, h2, ha, _⟩ | q
            · exfalso
              unfold stM at e4
              split at e4
              · rename_i n
                split at e4
                · rename_i xs e5; exact isL ⟨n, xs, rfl, e5⟩
                · rename_i xs e5
                  have V1' := VR.fwd F3 _ _ V1
                  simp only [VR] at V1'
                  obtain ⟨a, rfl, hn⟩ := V1'
                  cases h1
                  have hc := R3.at_ n _ _ hn e5
                  simp only [CRel] at hc
                  obtain ⟨us, q, _⟩ := hc
                  rw [ha] at q; cases q
                · rename_i xs e5
                  have V1' := VR.fwd F3 _ _ V1
                  simp only [VR] at V1'
                  obtain ⟨a, rfl, hn⟩ := V1'
                  cases h1
                  have hc := R3.at_ n _ _ hn e5
                  simp only [CRel] at hc
                  obtain ⟨us, q, _⟩ := hc
                  rw [ha] at q; cases q
                · cases e4
              · cases e4
            · exact q
/-- a, b = e1, e2 -/
theorem ms_par {n1 n2 : Nat} {t1 t2 : Str} {px py pt : Pos} {kt k2 pt2} (hN : X.N.Nodup) (ha : ME X a ma) (hb : ME X b mb) (hi : X.N[n1]? = some t1 := by rfl) (hj : X.N[n2]? = some t2 := by rfl) (hij : n1 ≠ n2 := by decide)
    (hx : X.env.scope.names.lookup t1 = some .local := by rfl) (hy : X.env.scope.names.lookup t2 = some .local := by rfl) (he1 : starEach (a :: [b]) X.env = (false, eval a X.env) :: starEach [b] X.env := by rfl) (he2 : starEach (b :: []) X.env = (false, eval b X.env) :: starEach [] X.env := by rfl)
    (hw : swappedStores [.Tuple [.Name t1 px, .Name t2 py] kt pt] (.Tuple [a, b] k2 pt2) X.env = pure (some [t1, t2]) := by rfl)
    (hs : swapsWithSole [.Tuple [.Name t1 px, .Name t2 py] kt pt] (.Tuple [a, b] k2 pt2) pos.line X.env = pure false := by rfl) (hc : X.calm = true := by rfl) :
    MS X (.Assign [.Tuple [.Name t1 px, .Name t2 py] kt pt] (.Tuple [a, b] k2 pt2) pos) (sPar n1 n2 ma mb) := PS.wk (ps_par hc hN hi hj hij hx hy (pa_cons ha (pa_cons hb pa_nil he2) he1) hw hs) fun D z H ⟨r, w, s, h, f, s', h', R, S, e, C⟩ => by
  unfold sPar at e
  cases e1 : ma s h with
  | none => simp [e1] at e
  | some p1 =>
    obtain ⟨v, h1⟩ := p1
    simp only [e1] at e
    cases e2 : mb s h1 with
    | none => simp [e2] at e
    | some p2 =>
      obtain ⟨v2, h2⟩ := p2
      simp only [e2, Option.some.injEq, Prod.mk.injEq] at e
      obtain ⟨rfl, rfl, rfl⟩ := e
      exact ⟨r, w, s, h, v, h1, R, S, e1, fun r1 u1 H1 F1 R1 V1 => ⟨r1, w, s, h1, v2, h2, R1, S.fwd F1, e2, fun r2 u2 H2 F2 R2 V2 => ⟨u1, u2, rfl, C r2 _ H2 (F1.tr R1 F2) R2 (((S.fwd F1).fwd F2).set n1 (VR.fwd F2 _ _ V1) |>.set n2 V2)⟩⟩⟩
/-! ### while -/
theorem ms_while (hc : MT X c ta) (hb : MSs X sts x) (hp : PassesOwn (model X.prog X.w) X.A X.env X.xe := by exact PassesOwn.never) : MS X (.While c sts [] pos) (sWhile ta x) := PS.wk (ps_while hp hc hb) fun D z H ⟨r, w, s, h, f, s', h', R, S, e, C⟩ => by
  obtain ⟨turns, e⟩ := fuel_at e
  refine ⟨fun n z H => ∃ r w s h f s' h', Rel X.K r w h H ∧ SR X.K r w H s z ∧ whileGo ta x n s h = some (f, s', h') ∧ EndS X.K r w h' H s' D f, ⟨turns, r, w, s, h, f, s', h', R, S, e, C⟩, ?_⟩
  rintro n z H ⟨r, w, s, h, f, s', h', R, S, e, C⟩
  cases n with
  | zero => simp [whileGo] at e
  | succ n =>
    simp only [whileGo] at e
    split at e
    · cases e
    · rename_i h1 e1
      simp only [Option.some.injEq, Prod.mk.injEq] at e
      obtain ⟨rfl, rfl, rfl⟩ := e
      exact ⟨r, w, s, h, _, h1, R, S, e1, fun r1 H1 F1 R1 => iteF (C r1 z H1 F1 R1 (S.fwd F1))⟩
    · rename_i h1 e1
      refine ⟨r, w, s, h, _, h1, R, S, e1, fun r1 H1 F1 R1 => iteT ⟨fun z' H' => ∃ r w s h f s' h', Rel X.K r w h H' ∧ SR X.K r w H' s z' ∧ whileGo ta x n s h = some (f, s', h') ∧ EndS X.K r w h' H' s' D f, fun z' H' q => ⟨n, Nat.lt_succ_self n, q⟩, ?_⟩⟩
      split at e
      · rename_i s2 h2 e2
        exact ⟨r1, w, s, h1, .nx, s2, h2, R1, S.fwd F1, e2, fun r2 z2 H2 F2 R2 S2 => ⟨r2, w, s2, h2, f, s', h', R2, S2, e, EndS.fwd C (F1.tr R1 F2) R2⟩⟩
      · rename_i s2 h2 e2
        exact ⟨r1, w, s, h1, .ct, s2, h2, R1, S.fwd F1, e2, fun r2 z2 H2 F2 R2 S2 => ⟨r2, w, s2, h2, f, s', h', R2, S2, e, EndS.fwd C (F1.tr R1 F2) R2⟩⟩
      · rename_i s2 h2 e2
        simp only [Option.some.injEq, Prod.mk.injEq] at e
        obtain ⟨rfl, rfl, rfl⟩ := e
        exact ⟨r1, w, s, h1, .bk, s2, h2, R1, S.fwd F1, e2, ContS.fwd C F1 R1⟩
      · rename_i v s2 h2 e2
        simp only [Option.some.injEq, Prod.mk.injEq] at e
        obtain ⟨rfl, rfl, rfl⟩ := e
        exact ⟨r1, w, s, h1, .rt v, s2, h2, R1, S.fwd F1, e2, Cont.fwd C F1 R1⟩
      · cases e
end
end Ew
end

section
set_option Elab.async false
set_option linter.all false
set_option maxRecDepth 100000
set_option maxHeartbeats 4000000
/-! EwG: for, comprehensions, defs and their calls. -/
namespace Ew
open PySem PySem.Spec PyProof.Rows L2
variable [Tabs]
section
variable (K : PySem.W.Frag)
/-- what an iterator yields, turn by turn -/
structure Walks (J : It) (xs : List MV) (r w : List Addr) (H : Hp) : Prop where
  at_ : ∀ i r1 w1 H1 h1, Fwd r H r1 H1 → Stp r w H r1 w1 H1 → Rel K r1 w1 h1 H1 → i < xs.length → J.go i H1 ∧ ∀ x H2, J.yld i H1 x H2 → Fwd r1 H1 r1 H2 ∧ Rel K r1 w1 h1 H2 ∧ ∃ v, xs[i]? = some v ∧ VR K r1 w1 H2 v x
  stop : ∀ i r1 w1 H1 h1, Fwd r H r1 H1 → Stp r w H r1 w1 H1 → Rel K r1 w1 h1 H1 → xs.length = i → J.stop i H1
structure WalksC (J : It) (n : Nat) (r w : List Addr) (H : Hp) : Prop where
  at_ : ∀ i r1 w1 H1 h1 ys y, Stp r w H r1 w1 H1 → Rel K r1 w1 h1 H1 → h1[n]? = some (.lst ys) → ys[i]? = some y → J.go i H1 ∧ ∀ x H2, J.yld i H1 x H2 → H2 = H1 ∧ VR K r1 w1 H2 y x
  stop : ∀ i r1 w1 H1 h1 ys, Stp r w H r1 w1 H1 → Rel K r1 w1 h1 H1 → h1[n]? = some (.lst ys) → ys[i]? = none → J.stop i H1
def WalkI (it : MI) (J : It) (r w : List Addr) (H : Hp) : Prop := match it with
  | .vals xs => Walks K J xs r w H
  | .cell n => WalksC K J n r w H
def tI (m : XI) : TI := fun z H R => ∃ r w s h it h', Rel K r w h H ∧ SR K r w H s z ∧ m s h = some (it, h') ∧ ∀ r' J H', Fwd r H r' H' → Rel K r' w h' H' → WalkI K it J r' w H' → R J H'
end
abbrev MII (X : Cx) (tg e : Expr) (m : XI) : Prop := PI X tg e (tI X.K m)
theorem PI.wk {X : Cx} {tg e : Expr} {t t' : TI} (h : PI X tg e t) (k : ∀ z H R, t' z H R → t z H R) : PI X tg e t' := ⟨fun pins s z H R I q => h.run pins s z H R I (k z H R q)⟩
section
variable {K : PySem.W.Frag} {X : Cx} {e a b c o i : Expr} {m ma mb mc mo mi : XE} {pos p : Pos} {es : List Expr} {mas : XA} {st : Stmt} {sts sts2 : List Stmt} {x y : XS} {ta : XT} {g : XG} {gs : XGs} {tg iter : Expr} {it : XI}
theorem walks_list (K : PySem.W.Frag) {r w : List Addr} {H : Hp} {h : MH} {v : MV} {a : Addr} {xs : List MV} (R : Rel K r w h H) (V : VR K r w H v (.ref a)) (nr : ∀ n, v ≠ .ref n) (e : listOf h v = some xs) : Walks K (Itl K a) xs r w H := by
  have get : ∀ r1 w1 H1 h1, Stp r w H r1 w1 H1 → Rel K r1 w1 h1 H1 → ∃ us, SqL K H1 a us ∧ VRs K r1 w1 H1 xs us := fun r1 w1 H1 h1 F R1 => by
    have V1 := VR.map F _ _ V
    have e1 : listOf h1 v = some xs := by
      cases v <;> first | exact e | exact absurd rfl (nr _)
    obtain ⟨p, us, ep, sq, q⟩ := list_sq K R1 V1 e1
    cases ep
    exact ⟨us, sq, q⟩
  refine ⟨fun i r1 w1 H1 h1 _ F R1 hi => ?_, fun i r1 w1 H1 h1 _ F R1 hi => ?_⟩
  · obtain ⟨us, sq, q⟩ := get r1 w1 H1 h1 F R1
    have e1 : xs[i]? = some xs[i] := List.getElem?_eq_getElem hi
    obtain ⟨u, q1, q2⟩ := VRs.get q e1
    refine ⟨⟨us, u, sq, q1⟩, fun x H2 ⟨eH, hx⟩ => ?_⟩
    subst eH
    have := hx us sq
    rw [q1] at this
    cases this
    exact ⟨Fwd.refl _ _, R1, _, e1, q2⟩
  · obtain ⟨us, sq, q⟩ := get r1 w1 H1 h1 F R1
    exact ⟨us, sq, by rw [← VRs.length q]; exact Nat.le_of_eq hi⟩
theorem walks_tv (K : PySem.W.Frag) {r w : List Addr} {H : Hp} {h : MH} {a : Addr} {v : MV} {xs : List MV} (R : Rel K r w h H) (V : VR K r w H v (.ref a)) (hv : v = .tup xs ∨ v = .row xs) : Walks K (Itt K a) xs r w H := by
  have get : ∀ r1 w1 H1 h1, Stp r w H r1 w1 H1 → Rel K r1 w1 h1 H1 → ∃ us, SqT K H1 a us ∧ VRs K r1 w1 H1 xs us := fun r1 w1 H1 h1 F R1 => by
    have V1 := VR.map F _ _ V
    rcases hv with rfl | rfl
    · simp only [VR] at V1
      obtain ⟨p, us, ep, t, q⟩ := V1
      cases ep
      exact ⟨us, t.sq, q⟩
    · simp only [VR] at V1
      obtain ⟨p, us, ep, t, q⟩ := V1
      cases ep
      exact ⟨us, t.sq, q⟩
  refine ⟨fun i r1 w1 H1 h1 _ F R1 hi => ?_, fun i r1 w1 H1 h1 _ F R1 hi => ?_⟩
  · obtain ⟨us, sq, q⟩ := get r1 w1 H1 h1 F R1
    have e1 : xs[i]? = some xs[i] := List.getElem?_eq_getElem hi
    obtain ⟨u, q1, q2⟩ := VRs.get q e1
    refine ⟨⟨us, u, sq, q1⟩, fun x H2 ⟨eH, hx⟩ => ?_⟩
    subst eH
    have := hx us sq
    rw [q1] at this
    cases this
    exact ⟨Fwd.refl _ _, R1, _, e1, q2⟩
  · obtain ⟨us, sq, q⟩ := get r1 w1 H1 h1 F R1
    exact ⟨us, sq, by rw [← VRs.length q]; exact Nat.le_of_eq hi⟩
theorem walks_cell (K : PySem.W.Frag) {r w : List Addr} {H : Hp} {h : MH} {a : Addr} {n : Nat} (R : Rel K r w h H) (hn : r[n]? = some a) : WalksC K (Itl K a) n r w H := by
  have get : ∀ r1 w1 H1 h1 ys, Stp r w H r1 w1 H1 → Rel K r1 w1 h1 H1 → h1[n]? = some (.lst ys) → ∃ us, SqL K H1 a us ∧ VRs K r1 w1 H1 ys us := fun r1 w1 H1 h1 ys F R1 e1 => by
    have hc := R1.at_ n a _ (F.ix _ _ hn) e1
    simp only [CRel] at hc
    obtain ⟨us, h1, h2⟩ := hc
    exact ⟨us, .inl (.inl h1), h2⟩
  refine ⟨fun i r1 w1 H1 h1 ys y F R1 e1 e2 => ?_, fun i r1 w1 H1 h1 ys F R1 e1 e2 => ?_⟩
  · obtain ⟨us, sq, q⟩ := get r1 w1 H1 h1 ys F R1 e1
    obtain ⟨u, q1, q2⟩ := VRs.get q e2
    refine ⟨⟨us, u, sq, q1⟩, fun x H2 ⟨eH, hx⟩ => ?_⟩
    subst eH
    have := hx us sq
    rw [q1] at this
    cases this
    exact ⟨rfl, q2⟩
  · obtain ⟨us, sq, q⟩ := get r1 w1 H1 h1 ys F R1 e1
    exact ⟨us, sq, by rw [← VRs.length q]; exact List.getElem?_eq_none_iff.mp e2⟩
/-- a list, a tuple that is walked -/
theorem mi_seq (he : ME X e m) : MII X tg e (iSeq m) := PI.wk (PI.or2 (pi_list he) (pi_tup he)) fun z H Q ⟨r, w, s, h, it, h', R, S, e, C⟩ => by
  unfold iSeq at e
  split at e
  · rename_i n h1 e1
    split at e
    · rename_i ys e2
      simp only [Option.some.injEq, Prod.mk.injEq] at e
      obtain ⟨rfl, rfl⟩ := e
      refine .inl ⟨r, w, s, h, _, h1, R, S, e1, fun r1 u H1 F1 R1 V1 => ?_⟩
      obtain ⟨a, us, rfl, hn, ha, q⟩ := ref_at R1 V1 e2
      exact ⟨a, rfl, ⟨us, SqL.of ha⟩, C r1 _ H1 F1 R1 (walks_cell X.K R1 hn)⟩
    · cases e
  · rename_i v h1 nr e1
    split at e
    · rename_i xs e2
      simp only [Option.some.injEq, Prod.mk.injEq] at e
      obtain ⟨rfl, rfl⟩ := e
      by_cases ht : ∃ ys, v = .tup ys ∨ v = .row ys
      · obtain ⟨ys, ht⟩ := ht
        obtain rfl : ys = xs := by rcases ht with rfl | rfl <;> simpa [seqOf] using e2
        refine .inr ⟨r, w, s, h, _, h1, R, S, e1, fun r1 u H1 F1 R1 V1 => ?_⟩
        have V1' := V1
        obtain ⟨a, us, rfl, sq⟩ : ∃ a us, u = .ref a ∧ SqT X.K H1 a us := by
          rcases ht with rfl | rfl
          · simp only [VR] at V1'
            obtain ⟨a, us, e, t, _⟩ := V1'
            exact ⟨a, us, e, t.sq⟩
          · simp only [VR] at V1'
            obtain ⟨a, us, e, t, _⟩ := V1'
            exact ⟨a, us, e, t.sq⟩
        exact ⟨a, rfl, ⟨us, sq⟩, C r1 _ H1 F1 R1 (walks_tv X.K R1 V1 ht)⟩
      · have e3 : listOf h1 v = some xs := by
          cases v <;> first | exact absurd ⟨_, .inl rfl⟩ ht | exact absurd ⟨_, .inr rfl⟩ ht | simpa [seqOf] using e2
        refine .inl ⟨r, w, s, h, _, h1, R, S, e1, fun r1 u H1 F1 R1 V1 => ?_⟩
        obtain ⟨a, us, rfl, sq, q⟩ := list_sq X.K R1 V1 e3
        exact ⟨a, rfl, ⟨us, sq⟩, C r1 _ H1 F1 R1 (walks_list X.K R1 V1 (fun n en => nr n (by rw [en])) e3)⟩
    · cases e
  · cases e
theorem rngM_at {lo : Int} {n i : Nat} (hi : i < n) : (rngM lo n)[i]? = some (.int (lo + (i : Nat))) := by
  unfold rngM
  rw [List.getElem?_map, List.getElem?_range hi]
  rfl
theorem walks_rng {lo : Int} {n : Nat} {r w : List Addr} {H : Hp} : Walks K (Itr lo n) (rngM lo n) r w H := by
  have hl : (rngM lo n).length = n := by simp [rngM]
  refine ⟨fun i r1 w1 H1 h1 _ F R1 hi => ?_, fun i r1 w1 H1 h1 _ F R1 hi => ?_⟩
  · rw [hl] at hi
    refine ⟨hi, fun x H2 ⟨eH, hx⟩ => ?_⟩
    subst eH hx
    exact ⟨Fwd.refl _ _, R1, _, rngM_at hi, by simp only [VR]⟩
  · rw [hl] at hi
    exact Nat.le_of_eq hi
theorem mi_range1 (hm : X.mg "range" = none) (he : ME X e m) (hg : Gl X "range" := by rfl) (hs : starEach [e] X.env = [(false, eval e X.env)] := by rfl) : MII X tg (.Call (.Name "range" p) [e] [] pos) (iRange1 m) :=
  PI.wk (pi_range1 hg hm (pa_cons he pa_nil hs) hs) fun z H Q ⟨r, w, s, h, it, h', R, S, e, C⟩ => by
  unfold iRange1 at e
  split at e
  · rename_i j h1 e1
    split at e
    · rename_i hj
      simp only [Option.some.injEq, Prod.mk.injEq] at e
      obtain ⟨rfl, rfl⟩ := e
      refine ⟨r, w, s, h, _, h1, R, S, e1, fun r1 u H1 F1 R1 V1 => ?_⟩
      simp only [VR] at V1
      subst V1
      exact ⟨j, rfl, hj.1, hj.2, C r1 _ H1 F1 R1 walks_rng⟩
    · cases e
  · cases e
theorem mi_range2 (hm : X.mg "range" = none) (ha : ME X a ma) (hb : ME X b mb) (hg : Gl X "range" := by rfl) (hs : starEach [a, b] X.env = [(false, eval a X.env), (false, eval b X.env)] := by rfl) (hs2 : starEach [b] X.env = [(false, eval b X.env)] := by rfl)
    (hs3 : starEach (a :: [b]) X.env = (false, eval a X.env) :: starEach [b] X.env := by rfl) : MII X tg (.Call (.Name "range" p) [a, b] [] pos) (iRange2 ma mb) :=
  PI.wk (pi_range2 hg hm (pa_cons ha (pa_cons hb pa_nil hs2) hs3) hs hs2) fun z H Q ⟨r, w, s, h, it, h', R, S, e, C⟩ => by
  unfold iRange2 at e
  split at e
  · rename_i i h1 e1
    split at e
    · rename_i j h2 e2
      split at e
      · rename_i hj
        simp only [Option.some.injEq, Prod.mk.injEq] at e
        obtain ⟨rfl, rfl⟩ := e
        refine ⟨r, w, s, h, _, h1, R, S, e1, fun r1 u1 H1 F1 R1 V1 => ⟨r1, w, s, h1, _, h2, R1, S.fwd F1, e2, fun r2 u2 H2 F2 R2 V2 => ?_⟩⟩
        simp only [VR] at V1 V2
        subst V1 V2
        exact ⟨i, j, rfl, hj, C r2 _ H2 (F1.tr R1 F2) R2 walks_rng⟩
      · cases e
    · cases e
  · cases e
/-! ### for -/
theorem for_vals {J : It} {xs : List MV} {tb : TS} {D : Ends} {z : L2.St} {r w : List Addr} {s : SM} {h : MH} {H : Hp} {f : Fl} {s' : SM} {h' : MH} (Wk : Walks K J xs r w H) (R : Rel K r w h H) (S : SR K r w H s z) (e : forGo g x xs s h = some (f, s', h')) (C : EndS K r w h' H s' D f) :
    ∃ W : Nat → Nat → L2.St → Hp → Prop, (∃ m, W 0 m z H) ∧ ∀ i m z H, W i m z H →
      (J.stop i H ∧ D.nx z H) ∨ (J.go i H ∧ ∃ N : L2.St → Hp → Prop, (∀ z' H', N z' H' → ∃ m', m' < m ∧ W (i + 1) m' z' H') ∧ ∀ u H', J.yld i H u H' → tG K g u z H' fun z2 H2 => tS K x { D with nx := N, ct := N, bk := D.nx } z2 H2) := by
  have W0 : Nat → L2.St → Hp → Prop := fun i z1 H1 => True
  refine ⟨fun i n z1 H1 => n = xs.length - i ∧ i ≤ xs.length ∧ ∃ r1 s1 h1, Fwd r H r1 H1 ∧ Rel K r1 w h1 H1 ∧ SR K r1 w H1 s1 z1 ∧ forGo g x (xs.drop i) s1 h1 = some (f, s', h'),
    ⟨_, rfl, Nat.zero_le _, r, s, h, Fwd.refl r H, R, S, by simpa using e⟩, ?_⟩
  rintro i n z1 H1 ⟨rfl, hi, r1, s1, h1, F1, R1, S1, e1⟩
  by_cases hl : i < xs.length
  · refine .inr ⟨(Wk.at_ i r1 w H1 h1 F1 F1.stp R1 hl).1, fun z2 H2 => ∃ r2 s2 h2, Fwd r H r2 H2 ∧ Rel K r2 w h2 H2 ∧ SR K r2 w H2 s2 z2 ∧ forGo g x (xs.drop (i + 1)) s2 h2 = some (f, s', h'), fun z2 H2 q => ⟨xs.length - (i + 1), by omega, rfl, hl, q⟩, fun u H2 hy => ?_⟩
    obtain ⟨F2, R2, v, ev, Vv⟩ := (Wk.at_ i r1 w H1 h1 F1 F1.stp R1 hl).2 u H2 hy
    have F12 := F1.tr R1 F2
    have ed : xs.drop i = v :: xs.drop (i + 1) := by
      rw [List.drop_eq_getElem_cons hl]
      rw [List.getElem?_eq_getElem hl] at ev
      cases ev; rfl
    rw [ed] at e1
    simp only [forGo] at e1
    cases e2 : g v s1 h1 with
    | none => simp [e2] at e1
    | some p2 =>
      obtain ⟨s3, h3⟩ := p2
      simp only [e2] at e1
      refine ⟨r1, w, s1, h1, v, s3, h3, R2, S1.fwd F2, Vv, e2, fun r3 z3 H3 F3 R3 S3 => ?_⟩
      have F13 := F12.tr R2 F3
      split at e1
      · rename_i s4 h4 e4
        exact ⟨r3, w, s3, h3, .nx, s4, h4, R3, S3, e4, fun r4 z4 H4 F4 R4 S4 => ⟨r4, s4, h4, F13.tr R3 F4, R4, S4, e1⟩⟩
      · rename_i s4 h4 e4
        exact ⟨r3, w, s3, h3, .ct, s4, h4, R3, S3, e4, fun r4 z4 H4 F4 R4 S4 => ⟨r4, s4, h4, F13.tr R3 F4, R4, S4, e1⟩⟩
      · rename_i s4 h4 e4
        simp only [Option.some.injEq, Prod.mk.injEq] at e1
        obtain ⟨rfl, rfl, rfl⟩ := e1
        exact ⟨r3, w, s3, h3, .bk, s4, h4, R3, S3, e4, ContS.fwd C F13 R3⟩
      · rename_i v4 s4 h4 e4
        simp only [Option.some.injEq, Prod.mk.injEq] at e1
        obtain ⟨rfl, rfl, rfl⟩ := e1
        exact ⟨r3, w, s3, h3, .rt v4, s4, h4, R3, S3, e4, Cont.fwd C F13 R3⟩
      · cases e1
  · have e0 : xs.drop i = [] := List.drop_eq_nil_of_le (by omega)
    rw [e0] at e1
    simp only [forGo, Option.some.injEq, Prod.mk.injEq] at e1
    obtain ⟨rfl, rfl, rfl⟩ := e1
    exact .inl ⟨Wk.stop i r1 w H1 h1 F1 F1.stp R1 (by omega), C r1 z1 H1 F1 R1 S1⟩
theorem for_cell {J : It} {n : Nat} {D : Ends} {z : L2.St} {r w : List Addr} {s : SM} {h : MH} {H : Hp} {f : Fl} {s' : SM} {h' : MH} {t : Nat} (Wk : WalksC K J n r w H) (R : Rel K r w h H) (S : SR K r w H s z) (e : forCell g x n t 0 s h = some (f, s', h')) (C : EndS K r w h' H s' D f) :
    ∃ W : Nat → Nat → L2.St → Hp → Prop, (∃ m, W 0 m z H) ∧ ∀ i m z H, W i m z H →
      (J.stop i H ∧ D.nx z H) ∨ (J.go i H ∧ ∃ N : L2.St → Hp → Prop, (∀ z' H', N z' H' → ∃ m', m' < m ∧ W (i + 1) m' z' H') ∧ ∀ u H', J.yld i H u H' → tG K g u z H' fun z2 H2 => tS K x { D with nx := N, ct := N, bk := D.nx } z2 H2) := by
  refine ⟨fun i k z1 H1 => ∃ r1 s1 h1, Fwd r H r1 H1 ∧ Rel K r1 w h1 H1 ∧ SR K r1 w H1 s1 z1 ∧ forCell g x n k i s1 h1 = some (f, s', h'),
    ⟨t, r, s, h, Fwd.refl r H, R, S, e⟩, ?_⟩
  rintro i k z1 H1 ⟨r1, s1, h1, F1, R1, S1, e1⟩
  cases k with
  | zero => simp [forCell] at e1
  | succ k =>
    simp only [forCell] at e1
    split at e1
    · rename_i ys e2
      cases e3 : ys[i]? with
      | none =>
        simp only [e3, Option.some.injEq, Prod.mk.injEq] at e1
        obtain ⟨rfl, rfl, rfl⟩ := e1
        exact .inl ⟨Wk.stop i r1 w H1 h1 ys F1.stp R1 e2 e3, C r1 z1 H1 F1 R1 S1⟩
      | some v =>
        simp only [e3] at e1
        refine .inr ⟨(Wk.at_ i r1 w H1 h1 ys v F1.stp R1 e2 e3).1, fun z2 H2 => ∃ r2 s2 h2, Fwd r H r2 H2 ∧ Rel K r2 w h2 H2 ∧ SR K r2 w H2 s2 z2 ∧ forCell g x n k (i + 1) s2 h2 = some (f, s', h'), fun z2 H2 q => ⟨k, Nat.lt_succ_self k, q⟩, fun u H2 hy => ?_⟩
        obtain ⟨eH, Vv⟩ := (Wk.at_ i r1 w H1 h1 ys v F1.stp R1 e2 e3).2 u H2 hy
        subst eH
        cases e4 : g v s1 h1 with
        | none => simp [e4] at e1
        | some p2 =>
          obtain ⟨s3, h3⟩ := p2
          simp only [e4] at e1
          refine ⟨r1, w, s1, h1, v, s3, h3, R1, S1, Vv, e4, fun r3 z3 H3 F3 R3 S3 => ?_⟩
          have F13 := F1.tr R1 F3
          split at e1
          · rename_i s4 h4 e4
            exact ⟨r3, w, s3, h3, .nx, s4, h4, R3, S3, e4, fun r4 z4 H4 F4 R4 S4 => ⟨r4, s4, h4, F13.tr R3 F4, R4, S4, e1⟩⟩
          · rename_i s4 h4 e4
            exact ⟨r3, w, s3, h3, .ct, s4, h4, R3, S3, e4, fun r4 z4 H4 F4 R4 S4 => ⟨r4, s4, h4, F13.tr R3 F4, R4, S4, e1⟩⟩
          · rename_i s4 h4 e4
            simp only [Option.some.injEq, Prod.mk.injEq] at e1
            obtain ⟨rfl, rfl, rfl⟩ := e1
            exact ⟨r3, w, s3, h3, .bk, s4, h4, R3, S3, e4, ContS.fwd C F13 R3⟩
          · rename_i v4 s4 h4 e4
            simp only [Option.some.injEq, Prod.mk.injEq] at e1
            obtain ⟨rfl, rfl, rfl⟩ := e1
            exact ⟨r3, w, s3, h3, .rt v4, s4, h4, R3, S3, e4, Cont.fwd C F13 R3⟩
          · cases e1
    · cases e1
theorem ms_for (hi : MII X tg iter it) (hg : MG X tg g) (hb : MSs X sts x) (hs : ∀ x, foldedSetIterable iter X.env x = pure x := by intro _; rfl) (hp : PassesOwn (model X.prog X.w) X.A X.env X.xe := by exact PassesOwn.never) (hc : X.calm = true := by rfl) : MS X (.For tg iter sts [] pos) (sFor it g x) := PS.wk (ps_for hp hc hi hg hb hs) fun D z H ⟨r, w, s, h, f, s', h', R, S, e, C⟩ => by
  unfold sFor at e
  split at e
  · cases e
  · rename_i xs h1 e1
    exact ⟨r, w, s, h, _, h1, R, S, e1, fun r1 J H1 F1 R1 W => for_vals (tb := tS X.K x) W R1 (S.fwd F1) e (EndS.fwd C F1 R1)⟩
  · rename_i n h1 e1
    obtain ⟨t, e⟩ := fuel_at e
    exact ⟨r, w, s, h, _, h1, R, S, e1, fun r1 J H1 F1 R1 W => for_cell W R1 (S.fwd F1) e (EndS.fwd C F1 R1)⟩
end
end Ew
end

section
set_option Elab.async false
set_option linter.all false
set_option maxRecDepth 100000
set_option maxHeartbeats 4000000
/-! EwH: comprehensions, defs and their calls. -/
namespace Ew
open PySem PySem.Spec PyProof.Rows L2
variable [Tabs]
/-! ### slots that are wiped -/
theorem wipe_get (z : L2.St) : ∀ (vs : List Nat) (j : Nat), (wipe z vs)[j]? = if j ∈ vs then (if j < z.length then some none else none) else z[j]?
  | [], j => by simp [wipe]
  | v :: vs, j => by
    unfold wipe
    by_cases e : j = v
    · subst e
      simp only [List.mem_cons, true_or, if_true]
      by_cases hl : j < z.length
      · rw [List.getElem?_set_self (by rw [wipe_length]; exact hl), if_pos hl]
      · rw [List.getElem?_eq_none_iff.mpr (by rw [List.length_set, wipe_length]; omega), if_neg hl]
    · rw [List.getElem?_set_ne (Ne.symm e), wipe_get z vs j]
      simp only [List.mem_cons, e, false_or]
theorem wipeM_get (z : SM) : ∀ (vs : List Nat) (j : Nat), (wipeM z vs)[j]? = if j ∈ vs then (if j < z.length then some none else none) else z[j]?
  | [], j => by simp [wipeM]
  | v :: vs, j => by
    have hlen : ∀ vs : List Nat, (wipeM z vs).length = z.length := by
      intro vs
      induction vs with
      | nil => rfl
      | cons v vs ih => unfold wipeM; rw [List.length_set, ih]
    unfold wipeM
    by_cases e : j = v
    · subst e
      simp only [List.mem_cons, true_or, if_true]
      by_cases hl : j < z.length
      · rw [List.getElem?_set_self (by rw [hlen]; exact hl), if_pos hl]
      · rw [List.getElem?_eq_none_iff.mpr (by rw [List.length_set, hlen]; omega), if_neg hl]
    · rw [List.getElem?_set_ne (Ne.symm e), wipeM_get z vs j]
      simp only [List.mem_cons, e, false_or]
theorem wipeM_length (z : SM) : ∀ vs : List Nat, (wipeM z vs).length = z.length
  | [] => rfl
  | v :: vs => by unfold wipeM; rw [List.length_set, wipeM_length z vs]
theorem wipe_set {z : L2.St} {vs : List Nat} {i : Nat} {o : Option V} (hi : i ∈ vs) : wipe (z.set i o) vs = wipe z vs := by
  apply List.ext_getElem?
  intro j
  rw [wipe_get, wipe_get, List.length_set]
  by_cases hj : j ∈ vs
  · rw [if_pos hj, if_pos hj]
  · rw [if_neg hj, if_neg hj]
    have ne : i ≠ j := fun e => hj (by rw [← e]; exact hi)
    exact List.getElem?_set_ne ne
section
variable {K : PySem.W.Frag} {r r' w : List Addr} {H H' : Hp} {h : MH}
theorem SR.wipe {s : SM} {z : L2.St} (S : SR K r w H s z) (vs : List Nat) : SR K r w H (wipeM s vs) (L2.wipe z vs) := by
  refine ⟨by rw [wipeM_length, wipe_length]; exact S.1, fun i v e => ?_⟩
  rw [wipeM_get] at e
  by_cases hi : i ∈ vs
  · rw [if_pos hi] at e
    split at e <;> cases e
  · rw [if_neg hi] at e
    rw [wipe_get, if_neg hi]
    exact S.2 i v e
theorem Stp.held {p : Addr} {o : HO} (hw : p ∈ w) : Stp r w H r w (upd H p o) := ⟨fun _ _ h => h, fun a u n e => ⟨n, .inl (by rw [upd_ne (fun z => n.2 (by rw [z]; exact hw))]; exact e)⟩⟩
theorem Rel.held {p : Addr} {o : HO} (R : Rel K r w h H) (hw : p ∈ w) (nt : ∀ us, o ≠ HO.tup us := by intro _ z; cases z) : Rel K r w h (upd H p o) := by
  have hp : p ∉ r := (R.wh p hw).1
  refine ⟨R.len, R.nd, fun n a c hn hc => (R.at_ n a c hn hc).map (Stp.held hw) (upd_ne fun z => hp (by rw [← z]; exact List.mem_of_getElem? hn)), fun d hd => ?_⟩
  obtain ⟨n, u, e, nu⟩ := R.wh d hd
  refine ⟨n, ?_⟩
  by_cases q : d = p
  · subst q; exact ⟨o, upd_same, nt⟩
  · exact ⟨u, by rw [upd_ne q]; exact e, nu⟩
end
/-- a comprehension's target -/
structure TgOk (K : PySem.W.Frag) (vs : List Nat) (g : TG) (gm : XG) : Prop where
  at_ : ∀ (r w : List Addr) (s : SM) (h : MH) (v : MV) (s1 : SM) (h1 : MH) (u : V) (z : L2.St) (H : Hp) (Q : L2.St → Hp → Prop), Rel K r w h H → SR K r w H s z → VR K r w H v u → gm v s h = some (s1, h1) →
    h1 = h ∧ ((∀ z1, SR K r w H s1 z1 → L2.wipe z1 vs = L2.wipe z vs → Q z1 H) → g u z H Q)
theorem tgok_nm {K : PySem.W.Frag} {vs : List Nat} {i : Nat} (hi : i ∈ vs) : TgOk K vs (gName i) (gNm i) := ⟨fun r w s h v s1 h1 u z H Q R S V e => by
  simp only [gNm, Option.some.injEq, Prod.mk.injEq] at e
  obtain ⟨rfl, rfl⟩ := e
  exact ⟨rfl, fun k => k _ (S.set i V) (wipe_set hi)⟩⟩
theorem tgok_2 {K : PySem.W.Frag} {vs : List Nat} {i j : Nat} (hi : i ∈ vs) (hj : j ∈ vs) : TgOk K vs (gTup K 2 (gCons (gName i) (gCons (gName j) gNil))) (gTp 2 (gsCons (gNm i) (gsCons (gNm j) gsNil))) := ⟨fun r w s h v s1 h1 u z H Q R S V e => by
  unfold gTp at e
  split at e
  · rename_i xs
    split at e
    · rename_i hl
      match xs, hl with
      | [x, y], _ =>
        simp only [gsCons, gNm, gsNil, Option.some.injEq, Prod.mk.injEq] at e
        obtain ⟨rfl, rfl⟩ := e
        refine ⟨rfl, fun k => ?_⟩
        simp only [VR] at V
        obtain ⟨a, us, rfl, t, q⟩ := V
        obtain ⟨u1, u2, rfl, q1, q2⟩ := vrs2 q
        exact ⟨a, _, rfl, t.sq, rfl, u1, [u2], rfl, u2, [], rfl, rfl, k _ ((S.set i q1).set j q2) (by rw [wipe_set hj, wipe_set hi])⟩
    · cases e
  · rename_i xs
    split at e
    · rename_i hl
      match xs, hl with
      | [x, y], _ =>
        simp only [gsCons, gNm, gsNil, Option.some.injEq, Prod.mk.injEq] at e
        obtain ⟨rfl, rfl⟩ := e
        refine ⟨rfl, fun k => ?_⟩
        simp only [VR] at V
        obtain ⟨a, us, rfl, t, q⟩ := V
        obtain ⟨u1, u2, rfl, q1, q2⟩ := vrs2 q
        exact ⟨a, _, rfl, t.sq, rfl, u1, [u2], rfl, u2, [], rfl, rfl, k _ ((S.set i q1).set j q2) (by rw [wipe_set hj, wipe_set hi])⟩
    · cases e
  · cases e⟩
theorem lc_vals {K : PySem.W.Frag} {J : It} {g : TG} {gm : XG} {c : XT} {e : XE} {own : List Nat} {xs : List MV} {r w : List Addr} {s : SM} {h h' : MH} {H : Hp} {z : L2.St} {D : Addr} {ys : List MV} {Q : VK} (Wk : Walks K J xs r w H) (tg : TgOk K own g gm)
    (R : Rel K r w h H) (S : SR K r w H s z) (hD : H D = none) (ev : lcGo gm c e [] xs (wipeM s own) h = some (ys, h')) (C : ContF K r w h' H (.lst ys) Q) :
    ∃ W : Nat → Nat → Hp → Prop, (∃ m, W 0 m (upd H D (.lst []))) ∧ ∀ i m H, W i m H → (J.stop i H ∧ Q (.ref D) H) ∨ (J.go i H ∧ ∃ Nx : Hp → Prop, (∀ H', Nx H' → ∃ m', m' < m ∧ W (i + 1) m' H') ∧
      ∀ x H', J.yld i H x H' → g x (L2.wipe z own) H' fun z2 H2 => L2.wipe z2 own = L2.wipe z own ∧ tT K c z2 H2 fun b H3 => if b = true then tM K e z2 H3 fun y H4 => ∃ acc, H4 D = some (.lst acc) ∧ acc.length < sizeLine ∧ Nx (upd H4 D (.lst (acc ++ [y]))) else Nx H3) := by
  have nD : D ∉ w := R.ninw hD
  -- the state at turn i: what is made so far
  let I : Nat → List MV → Hp → Prop := fun i acc H1 => ∃ r1 h1 us, Fwd r H r1 H1 ∧ Rel K r1 (D :: w) h1 H1 ∧ SR K r1 (D :: w) H1 (wipeM s own) (L2.wipe z own) ∧ H1 D = some (.lst us) ∧ VRs K r1 (D :: w) H1 acc us ∧ lcGo gm c e acc (xs.drop i) (wipeM s own) h1 = some (ys, h')
  refine ⟨fun i n H1 => n = xs.length - i ∧ i ≤ xs.length ∧ ∃ acc, I i acc H1, ⟨_, rfl, Nat.zero_le _, [], r, h, [], Fwd.new r hD, R.hold hD, (S.map (Stp.hold R hD)).wipe own, upd_same, by simp [VRs], by simpa using ev⟩, ?_⟩
  rintro i n H1 ⟨rfl, hi, acc, r1, h1, us, F1, R1, S1, eD, V1, e1⟩
  have st : Stp r w H r1 (D :: w) H1 := ⟨fun n a hn => F1.at_ hn, fun a o n ea => ⟨⟨F1.nin n.1 ea, fun hm => by
    rcases List.mem_cons.mp hm with q | q
    · rw [q, hD] at ea; cases ea
    · exact n.2 q⟩, .inl (F1.keep a o n.1 ea)⟩⟩
  by_cases hl : i < xs.length
  · obtain ⟨hgo, hy⟩ := Wk.at_ i r1 _ H1 h1 F1 st R1 hl
    refine .inr ⟨hgo, fun H2 => ∃ acc, I (i + 1) acc H2, fun H2 q => ⟨xs.length - (i + 1), by omega, rfl, hl, q⟩, fun x H2 hx => ?_⟩
    obtain ⟨F2, R2, v, ex, Vv⟩ := hy x H2 hx
    have F12 : Fwd r H r1 H2 := F1.tr R1 F2
    have ed : xs.drop i = v :: xs.drop (i + 1) := by
      rw [List.drop_eq_getElem_cons hl]
      rw [List.getElem?_eq_getElem hl] at ex
      cases ex; rfl
    rw [ed] at e1
    simp only [lcGo] at e1
    cases e2 : gm v (wipeM s own) h1 with
    | none => simp [e2] at e1
    | some p2 =>
      obtain ⟨s3, h3⟩ := p2
      simp only [e2] at e1
      have nDr : D ∉ r1 := (R1.wh D List.mem_cons_self).1
      have eD2 : H2 D = some (.lst us) := F2.keep D _ nDr eD
      have V2 := VRs.fwd F2 _ _ V1
      have S2 := S1.fwd F2
      obtain ⟨rfl, kg⟩ := tg.at_ r1 (D :: w) _ h1 v s3 h3 x _ H2 _ R2 S2 Vv e2
      refine kg fun z3 S3 wz => ⟨by rw [wz, show L2.wipe (L2.wipe z own) own = L2.wipe z own from by
        apply List.ext_getElem?
        intro j
        rw [wipe_get, wipe_get, wipe_length]
        split <;> rfl], ?_⟩
      cases e3 : c s3 h3 with
      | none => simp [e3] at e1
      | some p3 =>
        obtain ⟨b, h4⟩ := p3
        refine ⟨r1, _, s3, h3, b, h4, R2, S3, e3, fun r4 H4 F4 R4 => ?_⟩
        have F14 := F12.tr R2 F4
        have eD4 : H4 D = some (.lst us) := F4.keep D _ nDr eD2
        have V4 := VRs.fwd F4 _ _ V2
        cases b with
        | false =>
          simp only [e3] at e1
          exact iteF ⟨acc, r4, h4, us, F14, R4, S2.fwd F4, eD4, V4, e1⟩
        | true =>
          simp only [e3] at e1
          cases e5 : e s3 h4 with
          | none => simp [e5] at e1
          | some p5 =>
            obtain ⟨v5, h5⟩ := p5
            simp only [e5] at e1
            split at e1
            · rename_i hz
              refine iteT ⟨r4, _, s3, h4, v5, h5, R4, S3.fwd F4, e5, fun r5 u5 H5 F5 R5 V5 => ?_⟩
              have nDr4 : D ∉ r4 := (R4.wh D List.mem_cons_self).1
              have eD5 : H5 D = some (.lst us) := F5.keep D _ nDr4 eD4
              have V5' := VRs.fwd F5 _ _ V4
              have hm : D ∈ D :: w := List.mem_cons_self
              have F15 := F14.tr R4 F5
              refine ⟨us, eD5, by rw [← VRs.length V5', ← szl]; exact hz, acc ++ [v5], r5, h5, us ++ [u5], ⟨F15.ext, fun a o n ea => ?_, fun a o u ea => ?_⟩, R5.held hm, ((S2.fwd F4).fwd F5).map (Stp.held hm), upd_same, VRs.map (Stp.held hm) _ _ (VRs.append V5' (VRs.one V5)), e1⟩
              · rw [upd_ne (ne_of_none ea hD)]; exact F15.keep a o n ea
              · rw [upd_ne (ne_of_none ea hD)]; exact F15.frz a o u ea
            · cases e1
  · have e0 : xs.drop i = [] := List.drop_eq_nil_of_le (by omega)
    rw [e0] at e1
    simp only [lcGo, Option.some.injEq, Prod.mk.injEq] at e1
    obtain ⟨rfl, rfl⟩ := e1
    refine .inl ⟨Wk.stop i r1 _ H1 h1 F1 st R1 (by omega), C r1 D H1 F1 hD R1 ?_⟩
    simp only [VF]
    exact ⟨us, eD, V1⟩
theorem lc_cell {K : PySem.W.Frag} {J : It} {g : TG} {gm : XG} {c : XT} {e : XE} {own : List Nat} {nc t : Nat} {r w : List Addr} {s : SM} {h h' : MH} {H : Hp} {z : L2.St} {D : Addr} {ys : List MV} {Q : VK} (Wk : WalksC K J nc r w H) (tg : TgOk K own g gm)
    (R : Rel K r w h H) (S : SR K r w H s z) (hD : H D = none) (ev : lcCell gm c e nc t 0 [] (wipeM s own) h = some (ys, h')) (C : ContF K r w h' H (.lst ys) Q) :
    ∃ W : Nat → Nat → Hp → Prop, (∃ m, W 0 m (upd H D (.lst []))) ∧ ∀ i m H, W i m H → (J.stop i H ∧ Q (.ref D) H) ∨ (J.go i H ∧ ∃ Nx : Hp → Prop, (∀ H', Nx H' → ∃ m', m' < m ∧ W (i + 1) m' H') ∧
      ∀ x H', J.yld i H x H' → g x (L2.wipe z own) H' fun z2 H2 => L2.wipe z2 own = L2.wipe z own ∧ tT K c z2 H2 fun b H3 => if b = true then tM K e z2 H3 fun y H4 => ∃ acc, H4 D = some (.lst acc) ∧ acc.length < sizeLine ∧ Nx (upd H4 D (.lst (acc ++ [y]))) else Nx H3) := by
  have nD : D ∉ w := R.ninw hD
  let I : Nat → Nat → List MV → Hp → Prop := fun i m acc H1 => ∃ r1 h1 us, Fwd r H r1 H1 ∧ Rel K r1 (D :: w) h1 H1 ∧ SR K r1 (D :: w) H1 (wipeM s own) (L2.wipe z own) ∧ H1 D = some (.lst us) ∧ VRs K r1 (D :: w) H1 acc us ∧ lcCell gm c e nc m i acc (wipeM s own) h1 = some (ys, h')
  refine ⟨fun i n H1 => ∃ acc, I i n acc H1, ⟨t, [], r, h, [], Fwd.new r hD, R.hold hD, (S.map (Stp.hold R hD)).wipe own, upd_same, by simp [VRs], ev⟩, ?_⟩
  rintro i n H1 ⟨acc, r1, h1, us, F1, R1, S1, eD, V1, e1⟩
  have st : Stp r w H r1 (D :: w) H1 := ⟨fun n a hn => F1.at_ hn, fun a o n ea => ⟨⟨F1.nin n.1 ea, fun hm => by
    rcases List.mem_cons.mp hm with q | q
    · rw [q, hD] at ea; cases ea
    · exact n.2 q⟩, .inl (F1.keep a o n.1 ea)⟩⟩
  cases n with
  | zero => simp [lcCell] at e1
  | succ n =>
    simp only [lcCell] at e1
    split at e1
    · rename_i xs e0
      cases ex : xs[i]? with
      | none =>
        simp only [ex, Option.some.injEq, Prod.mk.injEq] at e1
        obtain ⟨rfl, rfl⟩ := e1
        refine .inl ⟨Wk.stop i r1 _ H1 h1 xs st R1 e0 ex, C r1 D H1 F1 hD R1 ?_⟩
        simp only [VF]
        exact ⟨us, eD, V1⟩
      | some v =>
        simp only [ex] at e1
        obtain ⟨hgo, hy⟩ := Wk.at_ i r1 _ H1 h1 xs v st R1 e0 ex
        refine .inr ⟨hgo, fun H2 => ∃ acc, I (i + 1) n acc H2, fun H2 q => ⟨n, Nat.lt_succ_self n, q⟩, fun x H2 hx => ?_⟩
        obtain ⟨eH, Vv⟩ := hy x H2 hx
        subst eH
        cases e2 : gm v (wipeM s own) h1 with
        | none => simp [e2] at e1
        | some p2 =>
          obtain ⟨s3, h3⟩ := p2
          simp only [e2] at e1
          have nDr : D ∉ r1 := (R1.wh D List.mem_cons_self).1
          obtain ⟨rfl, kg⟩ := tg.at_ r1 (D :: w) _ h1 v s3 h3 x _ H2 _ R1 S1 Vv e2
          refine kg fun z3 S3 wz => ⟨by rw [wz, show L2.wipe (L2.wipe z own) own = L2.wipe z own from by
            apply List.ext_getElem?
            intro j
            rw [wipe_get, wipe_get, wipe_length]
            split <;> rfl], ?_⟩
          cases e3 : c s3 h3 with
          | none => simp [e3] at e1
          | some p3 =>
            obtain ⟨b, h4⟩ := p3
            refine ⟨r1, _, s3, h3, b, h4, R1, S3, e3, fun r4 H4 F4 R4 => ?_⟩
            have F14 := F1.tr R1 F4
            have eD4 : H4 D = some (.lst us) := F4.keep D _ nDr eD
            have V4 := VRs.fwd F4 _ _ V1
            cases b with
            | false =>
              simp only [e3] at e1
              exact iteF ⟨acc, r4, h4, us, F14, R4, S1.fwd F4, eD4, V4, e1⟩
            | true =>
              simp only [e3] at e1
              cases e5 : e s3 h4 with
              | none => simp [e5] at e1
              | some p5 =>
                obtain ⟨v5, h5⟩ := p5
                simp only [e5] at e1
                split at e1
                · rename_i hz
                  refine iteT ⟨r4, _, s3, h4, v5, h5, R4, S3.fwd F4, e5, fun r5 u5 H5 F5 R5 V5 => ?_⟩
                  have nDr4 : D ∉ r4 := (R4.wh D List.mem_cons_self).1
                  have eD5 : H5 D = some (.lst us) := F5.keep D _ nDr4 eD4
                  have V5' := VRs.fwd F5 _ _ V4
                  have hm : D ∈ D :: w := List.mem_cons_self
                  have F15 := F14.tr R4 F5
                  refine ⟨us, eD5, by rw [← VRs.length V5', ← szl]; exact hz, acc ++ [v5], r5, h5, us ++ [u5], ⟨F15.ext, fun a o n ea => ?_, fun a o u ea => ?_⟩, R5.held hm, ((S1.fwd F4).fwd F5).map (Stp.held hm), upd_same, VRs.map (Stp.held hm) _ _ (VRs.append V5' (VRs.one V5)), e1⟩
                  · rw [upd_ne (ne_of_none ea hD)]; exact F15.keep a o n ea
                  · rw [upd_ne (ne_of_none ea hD)]; exact F15.frz a o u ea
                · cases e1
    · cases e1
/-- the reading of a comprehension -/
theorem lc_wk {K : PySem.W.Frag} {g : TG} {gm : XG} {c : XT} {e : XE} {own : List Nat} {it : XI} (tg : TgOk K own g gm) : ∀ z H Q, tF K (xLc it gm c e own) z H Q → tLc (tI K it) g (tT K c) (tM K e) own z H Q := fun z H Q ⟨r, w, s, h, v, h', R, S, ev, C⟩ => by
  unfold xLc at ev
  cases e1 : it s h with
  | none => simp [e1] at ev
  | some p1 =>
    obtain ⟨k, h1⟩ := p1
    simp only [e1] at ev
    refine ⟨r, w, s, h, k, h1, R, S, e1, fun r1 J H1 F1 R1 Wk D hD => ?_⟩
    cases k with
    | vals xs =>
      simp only at ev
      cases e2 : lcGo gm c e [] xs (wipeM s own) h1 with
      | none => simp [e2] at ev
      | some p2 =>
        obtain ⟨ys, h2⟩ := p2
        simp only [e2, Option.some.injEq, Prod.mk.injEq] at ev
        obtain ⟨rfl, rfl⟩ := ev
        exact lc_vals Wk tg R1 (S.fwd F1) hD e2 (C.fwd F1 R1)
    | cell n =>
      simp only at ev
      cases e2 : fuel fun t => lcCell gm c e n t 0 [] (wipeM s own) h1 with
      | none => simp [e2] at ev
      | some p2 =>
        obtain ⟨ys, h2⟩ := p2
        simp only [e2, Option.some.injEq, Prod.mk.injEq] at ev
        obtain ⟨rfl, rfl⟩ := ev
        obtain ⟨t, e2⟩ := fuel_at e2
        exact lc_cell Wk tg R1 (S.fwd F1) hD e2 (C.fwd F1 R1)
abbrev MTs (X : Cx) (ifs : List Expr) (c : XT) : Prop := PTs X ifs (tT X.K c)
theorem mts_nil {X : Cx} : MTs X [] cYes := ⟨fun pins s z H Q I ⟨r, w, s', h, v, h', R, S, e, C⟩ => pts_nil.run pins s z H Q I (by
  simp only [cYes, Option.some.injEq, Prod.mk.injEq] at e
  obtain ⟨rfl, rfl⟩ := e
  exact C r H (Fwd.refl r H) R)⟩
theorem mts_one {X : Cx} {c : Expr} {ta : XT} (h : MT X c ta) : MTs X [c] ta := pts_one h
section
variable {X : Cx} {elt tg iter : Expr} {ifs : List Expr} {scope : Scope} {own : List (Str × Nat)} {pos spos : Pos} {it : XI} {g : TG} {gm : XG} {c : XT} {me : XE}
/-- [elt for tg in iter if ..] -/
theorem mf_lc (hN : X.N.Nodup) (hi : MII X tg iter it) (ok : blkC X.N X.env.scope scope own = true) (tk : TgOk X.K (own.map (·.2)) g gm)
    (hg : ∀ (s : Shared) (H : Hp) (C : Addr) (cl : List (Str × Addr)) (fp : List Addr), PG (X.blk s H scope (compEnvC scope cl C X.env) fp) tg g)
    (ht : ∀ (s : Shared) (H : Hp) (C : Addr) (cl : List (Str × Addr)) (fp : List Addr), MTs (X.blk s H scope (compEnvC scope cl C X.env) fp) ifs c)
    (he : ∀ (s : Shared) (H : Hp) (C : Addr) (cl : List (Str × Addr)) (fp : List Addr), ME (X.blk s H scope (compEnvC scope cl C X.env) fp) elt me) (hs : ∀ x, foldedSetIterable iter X.env x = pure x := by intro _; rfl) (hc : X.calm = true := by rfl) :
    MF X (.ListComp elt [⟨tg, iter, ifs, 0⟩] scope pos) (xLc it gm c me (own.map (·.2))) := PE.wk (pe_lc hc hN hi (blkOk_by ok) hg ht he hs) (lc_wk tk)
end
/-! ### defs -/
section
variable (K : PySem.W.Frag)
/-- what a def's function promises; where what it hands back is a fresh list or dict -/
def spM (n : Nat) (g : Fn) : Sp := fun us H Q _ => us.length = n ∧ ∃ r w h vs v h', Rel K r w h H ∧ VRs K r w H vs us ∧ g vs h = some (v, h') ∧ Cont K r w h' H v Q
def spF (n : Nat) (g : Fn) : Sp := fun us H Q _ => us.length = n ∧ ∃ r w h vs v h', Rel K r w h H ∧ VRs K r w H vs us ∧ g vs h = some (v, h') ∧ ContF K r w h' H v Q
end
/-- a def of the text that keeps a promise -/
def Cal (P : Program) (w : World) (K : PySem.W.Frag) (mg : Str → Option Value) (base : Heap) (x : Str) (n : Nat) (sp : Sp) (k : Nat) : Prop :=
  ∃ (f : Addr) (fd : FuncData) (ps : List Str), FnOk P w K mg base CX0 k f fd ps sp ∧ ps.length = n ∧ mg x = some (.ref f) ∧ PySem.W.keepIn K (.ref f) = true ∧ Binds K fd ps []
section
variable {P : Program} {w : World} {K : PySem.W.Frag} {mg : Str → Option Value} {base : Heap} {x : Str} {n k : Nat}
theorem Cal.imp {sp sp' : Sp} (h : Cal P w K mg base x n sp k) (i : ∀ vs H Q E, sp' vs H Q E → sp vs H Q E) : Cal P w K mg base x n sp' k := by
  obtain ⟨f, fd, ps, F, a, b, c, d⟩ := h
  exact ⟨f, fd, ps, F.imp i, a, b, c, d⟩
/-- the def st, its body's function b -/
theorem def_fn {N ps : List Str} {st : Stmt} {f : Addr} {fd : FuncData} {b : XS} (F : L2.Fun K x x st f fd) (S : FnScope N ps (defScope st))
    (body : ∀ (cdv : Value) (A : Around) (outer : List Env) (s : Shared) (H : Hp) (E : XK), Room k (A.deeper (envOfC x (defScope st) s.heap.objs.size f cdv)) →
      MSs (cxOf CX0 P w K mg base N x (defScope st) f cdv A outer s H E).nox (defBody st) b) : FnOk P w K mg base CX0 (k + 1) f fd ps (spM K ps.length (runDef N.length b)) := by
  refine F.ok S (fun vs H Q E h => h.1) (fun cdv A outer s H us Q E hr h => ?_)
  obtain ⟨hl, r, w', hh, vs, v, h', R, V, e, C⟩ := h
  refine ⟨_, body cdv A outer s H E hr, ?_⟩
  have S0 : SR K r w' H (sBegin N.length vs) (L2.start N us) := by
    have hvl := VRs.length V
    refine ⟨by simp [sBegin, L2.start, hvl], fun i y ey => ?_⟩
    unfold sBegin at ey
    unfold L2.start
    by_cases hi : i < vs.length
    · rw [List.getElem?_append_left (by simpa using hi), List.getElem?_map] at ey
      cases ev : vs[i]? with
      | none => rw [ev] at ey; simp at ey
      | some y' =>
        rw [ev] at ey
        simp only [Option.map_some, Option.some.injEq] at ey
        subst ey
        obtain ⟨u, e1, e2⟩ := VRs.get V ev
        refine ⟨u, ?_, e2⟩
        rw [List.getElem?_append_left (by simpa [← hvl] using hi), List.getElem?_map, e1]
        rfl
    · rw [List.getElem?_append_right (by simpa using hi), List.getElem?_replicate] at ey
      split at ey <;> cases ey
  unfold runDef at e
  split at e
  · rename_i v1 s1 h1 e1
    simp only [Option.some.injEq, Prod.mk.injEq] at e
    obtain ⟨rfl, rfl⟩ := e
    exact ⟨r, w', _, hh, .rt v1, s1, h1, R, S0, e1, C⟩
  · rename_i s1 h1 e1
    simp only [Option.some.injEq, Prod.mk.injEq] at e
    obtain ⟨rfl, rfl⟩ := e
    exact ⟨r, w', _, hh, .nx, s1, h1, R, S0, e1, fun r1 z1 H1 F1 R1 S1 => C r1 .non H1 F1 R1 (by simp only [VR])⟩
  · cases e
theorem def_ok {N ps : List Str} {st : Stmt} {f : Addr} {fd : FuncData} {b : XS} (F : L2.Fun K x x st f fd) (hg : mg x = some (.ref f)) (S : FnScope N ps (defScope st))
    (hb : ∀ (kV doc pm : Value) (an : Option Addr) (cdv ct : Value) (us : List Value), us.length = ps.length → bindArgs (PySem.W.fnOf x x (defArgs st) (defBody st) (defScope st) .none kV doc pm an cdv ct) ⟨us, []⟩ = pure (ps.zip us))
    (body : ∀ (cdv : Value) (A : Around) (outer : List Env) (s : Shared) (H : Hp) (E : XK), Room k (A.deeper (envOfC x (defScope st) s.heap.objs.size f cdv)) →
      MSs (cxOf CX0 P w K mg base N x (defScope st) f cdv A outer s H E).nox (defBody st) b) : Cal P w K mg base x ps.length (spM K ps.length (runDef N.length b)) (k + 1) :=
  ⟨f, fd, ps, def_fn F S body, rfl, hg, F.kp, F.binds hb⟩
end
section
variable {X : Cx} {e : Expr} {es : List Expr} {mas : XA} {x : Str} {p pos : Pos} {n k j : Nat} {g : Fn}
theorem me_call (F : Cal X.prog X.w X.K X.mg X.base x n (spM X.K n g) j) (hr : Room k X.A) (ha : MA X (e :: es) mas) (hj : j ≤ k := by decide) (hn : (e :: es).length = n := by rfl) (hg : Gl X x := by rfl) (hdb : (x == ("__debug__" : Str)) = false := by decide +kernel)
    (he : starEach (e :: es) X.env = (false, eval e X.env) :: starEach es X.env := by rfl) (hpl : (backTo pos (starEach es X.env)).any (·.1) = false := by rfl) : ME X (.Call (.Name x p) (e :: es) [] pos) (xCall g mas) := by
  obtain ⟨f, fd, ps, F, hps, hm, hk, hb⟩ := F
  refine PE.wk (pe_call F (hr.mono hj) hg hm hk hb .nil pass0 ha.pa hdb he hpl) fun z H Q ⟨r, w, s, h, v, h', R, S, e, C⟩ => ?_
  unfold xCall at e
  cases e1 : mas s h with
  | none => simp [e1] at e
  | some p1 =>
    obtain ⟨xs, h1⟩ := p1
    simp only [e1] at e
    refine ⟨r, w, s, h, xs, h1, R, S, e1, fun r1 us H1 F1 R1 V1 => ?_⟩
    show spM X.K n g (us ++ []) H1 Q E0
    rw [List.append_nil]
    exact ⟨by rw [← VRs.length V1, ha.len _ _ _ _ e1]; exact hn, r1, w, h1, xs, v, h', R1, V1, e, C.fwd F1 R1⟩
theorem mf_call (F : Cal X.prog X.w X.K X.mg X.base x n (spF X.K n g) j) (hr : Room k X.A) (ha : MA X (e :: es) mas) (hj : j ≤ k := by decide) (hn : (e :: es).length = n := by rfl) (hg : Gl X x := by rfl) (hdb : (x == ("__debug__" : Str)) = false := by decide +kernel)
    (he : starEach (e :: es) X.env = (false, eval e X.env) :: starEach es X.env := by rfl) (hpl : (backTo pos (starEach es X.env)).any (·.1) = false := by rfl) : MF X (.Call (.Name x p) (e :: es) [] pos) (xCall g mas) := by
  obtain ⟨f, fd, ps, F, hps, hm, hk, hb⟩ := F
  refine PE.wk (pe_call F (hr.mono hj) hg hm hk hb .nil pass0 ha.pa hdb he hpl) fun z H Q ⟨r, w, s, h, v, h', R, S, e, C⟩ => ?_
  unfold xCall at e
  cases e1 : mas s h with
  | none => simp [e1] at e
  | some p1 =>
    obtain ⟨xs, h1⟩ := p1
    simp only [e1] at e
    refine ⟨r, w, s, h, xs, h1, R, S, e1, fun r1 us H1 F1 R1 V1 => ?_⟩
    show spF X.K n g (us ++ []) H1 Q E0
    rw [List.append_nil]
    exact ⟨by rw [← VRs.length V1, ha.len _ _ _ _ e1]; exact hn, r1, w, h1, xs, v, h', R1, V1, e, C.fwd F1 R1⟩
end
end Ew
end

section
set_option Elab.async false
set_option linter.all false
set_option maxRecDepth 100000
set_option maxHeartbeats 4000000
/-! EwI: what a def's function does told to its callers; the law's end. -/
namespace Ew
open PySem PySem.Spec PyProof.Rows L2
variable [Tabs]
section
variable {K : PySem.W.Frag} {r ps w w' : List Addr} {H : Hp} {h2 : MH} {x : Nat}
/-- what stands at a new cell is out of the old ones -/
theorem out_new (R : Rel K (r ++ ps) w h2 H) (hw : ∀ d ∈ w', d ∈ w ∨ (r ++ ps)[x]? = some d) {m : Nat} {a : Addr} (hm : (r ++ ps)[m]? = some a) (hn : r.length ≤ m) (hx : m ≠ x) : Out r w' a := by
  have hl := (List.getElem?_eq_some_iff.mp hm).1
  refine ⟨fun ha => ?_, fun ha => ?_⟩
  · obtain ⟨i, hi⟩ := List.getElem?_of_mem ha
    have hil := (List.getElem?_eq_some_iff.mp hi).1
    have hi2 : (r ++ ps)[i]? = some a := by rw [List.getElem?_append_left hil]; exact hi
    have := (List.getElem?_inj (List.getElem?_eq_some_iff.mp hi2).1 R.nd).mp (hi2.trans hm.symm)
    omega
  · rcases hw a ha with q | q
    · exact (R.wh a q).1 (List.mem_of_getElem? hm)
    · have := (List.getElem?_inj hl R.nd).mp (hm.trans q.symm)
      exact hx this
theorem out_old (hw : ∀ d ∈ w', d ∈ w ∨ (r ++ ps)[x]? = some d) {a : Addr} (n : Out (r ++ ps) w a) : Out r w' a :=
  ⟨fun q => n.1 (List.mem_append_left _ q), fun q => by
    rcases hw a q with z | z
    · exact n.2 z
    · exact n.1 (List.mem_of_getElem? z)⟩
mutual
theorem frz_vr (R : Rel K (r ++ ps) w h2 H) (hw : ∀ d ∈ w', d ∈ w ∨ (r ++ ps)[x]? = some d) : ∀ (y v : MV) (u : V), Frz h2 r.length x v y → VR K (r ++ ps) w H v u → VR K r w' H y u
  | .non, v, u, f, q => by simp only [Frz] at f; subst f; simpa [VR] using q
  | .bl _, v, u, f, q => by simp only [Frz] at f; subst f; simpa [VR] using q
  | .int _, v, u, f, q => by simp only [Frz] at f; subst f; simpa [VR] using q
  | .str _, v, u, f, q => by simp only [Frz] at f; subst f; simpa [VR] using q
  | .scr _, v, u, f, q => by
    simp only [Frz] at f; subst f
    simp only [VR] at q ⊢
    obtain ⟨a, e, q⟩ := q
    rcases q with ⟨n, q⟩ | q
    · exact ⟨a, e, .inl ⟨out_old hw n, q⟩⟩
    · exact ⟨a, e, .inr q⟩
  | .ref m, v, u, f, q => by
    simp only [Frz] at f
    obtain ⟨rfl, hm⟩ := f
    simp only [VR] at q ⊢
    obtain ⟨a, e, q⟩ := q
    rw [List.getElem?_append_left hm] at q
    exact ⟨a, e, q⟩
  | .tup ys, v, u, f, q => by
    simp only [Frz] at f
    obtain ⟨xs, rfl, f⟩ := f
    simp only [VR] at q ⊢
    obtain ⟨a, us, e, t, q⟩ := q
    exact ⟨a, us, e, ⟨out_old hw t.1, t.2⟩, frzs_vr R hw ys xs us f q⟩
  | .row ys, v, u, f, q => by
    simp only [Frz] at f
    obtain ⟨xs, rfl, f⟩ := f
    simp only [VR] at q ⊢
    obtain ⟨a, us, e, t, q⟩ := q
    exact ⟨a, us, e, t.elim (fun t => .inl ⟨out_old hw t.1, t.2⟩) .inr, frzs_vr R hw ys xs us f q⟩
  | .lst ys, v, u, f, q => by
    simp only [Frz] at f
    rcases f with ⟨xs, rfl, f⟩ | ⟨m, xs, rfl, hn, hx, hm, f⟩
    · simp only [VR] at q ⊢
      obtain ⟨a, us, e, n, t, q⟩ := q
      exact ⟨a, us, e, out_old hw n, t, frzs_vr R hw ys xs us f q⟩
    · simp only [VR] at q ⊢
      obtain ⟨a, e, q⟩ := q
      have hc := R.at_ m a _ q hm
      simp only [CRel] at hc
      obtain ⟨us, t, qs⟩ := hc
      exact ⟨a, us, e, out_new R hw q hn hx, t, frzs_vr R hw ys xs us f qs⟩
  | .dK ys, v, u, f, q => by
    simp only [Frz] at f
    rcases f with ⟨xs, rfl, f⟩ | ⟨m, xs, rfl, hn, hx, hm, f⟩
    · simp only [VR] at q ⊢
      obtain ⟨a, us, e, n, t, q⟩ := q
      exact ⟨a, us, e, out_old hw n, t, frzk_vr R hw ys xs us f q⟩
    · simp only [VR] at q ⊢
      obtain ⟨a, e, q⟩ := q
      have hc := R.at_ m a _ q hm
      simp only [CRel] at hc
      obtain ⟨us, t, qs⟩ := hc
      exact ⟨a, us, e, out_new R hw q hn hx, .inl t, frzk_vr R hw ys xs us f qs⟩
  | .dT ys, v, u, f, q => by
    simp only [Frz] at f
    rcases f with ⟨xs, rfl, f⟩ | ⟨m, xs, rfl, hn, hx, hm, f⟩
    · simp only [VR] at q ⊢
      obtain ⟨a, us, e, n, t, q⟩ := q
      exact ⟨a, us, e, out_old hw n, t, frzt_vr R hw ys xs us f q⟩
    · simp only [VR] at q ⊢
      obtain ⟨a, e, q⟩ := q
      have hc := R.at_ m a _ q hm
      simp only [CRel] at hc
      obtain ⟨us, t, qs⟩ := hc
      exact ⟨a, us, e, out_new R hw q hn hx, .inl t, frzt_vr R hw ys xs us f qs⟩
theorem frzs_vr (R : Rel K (r ++ ps) w h2 H) (hw : ∀ d ∈ w', d ∈ w ∨ (r ++ ps)[x]? = some d) : ∀ (y v : List MV) (u : List V), Frzs h2 r.length x v y → VRs K (r ++ ps) w H v u → VRs K r w' H y u
  | [], v, u, f, q => by simp only [Frzs] at f; subst f; simpa [VRs] using q
  | y :: ys, v, u, f, q => by
    simp only [Frzs] at f
    obtain ⟨v1, vs, rfl, f1, f2⟩ := f
    simp only [VRs] at q ⊢
    obtain ⟨u1, t, rfl, q1, q2⟩ := q
    exact ⟨u1, t, rfl, frz_vr R hw y v1 u1 f1 q1, frzs_vr R hw ys vs t f2 q2⟩
theorem frzk_vr (R : Rel K (r ++ ps) w h2 H) (hw : ∀ d ∈ w', d ∈ w ∨ (r ++ ps)[x]? = some d) : ∀ (y v : List (MK × MV)) (u : List (Key × V)), Frzk h2 r.length x v y → VRk K (r ++ ps) w H v u → VRk K r w' H y u
  | [], v, u, f, q => by simp only [Frzk] at f; subst f; simpa [VRk] using q
  | (k, y) :: ys, v, u, f, q => by
    simp only [Frzk] at f
    obtain ⟨v1, vs, rfl, f1, f2⟩ := f
    simp only [VRk] at q ⊢
    obtain ⟨u1, t, rfl, q1, q2⟩ := q
    exact ⟨u1, t, rfl, frz_vr R hw y v1 u1 f1 q1, frzk_vr R hw ys vs t f2 q2⟩
theorem frzt_vr (R : Rel K (r ++ ps) w h2 H) (hw : ∀ d ∈ w', d ∈ w ∨ (r ++ ps)[x]? = some d) : ∀ (y v : List (List MK × MV)) (u : List (List Key × V)), Frzt h2 r.length x v y → VRt K (r ++ ps) w H v u → VRt K r w' H y u
  | [], v, u, f, q => by simp only [Frzt] at f; subst f; simpa [VRt] using q
  | (k, y) :: ys, v, u, f, q => by
    simp only [Frzt] at f
    obtain ⟨v1, vs, rfl, f1, f2⟩ := f
    simp only [VRt] at q ⊢
    obtain ⟨u1, t, rfl, q1, q2⟩ := q
    exact ⟨u1, t, rfl, frz_vr R hw y v1 u1 f1 q1, frzt_vr R hw ys vs t f2 q2⟩
end
/-! what stood already speaks of what stood already -/
mutual
theorem vr_old {H0 : Hp} {w0 : List Addr} (R : Rel K (r ++ ps) w h2 H) (hw : ∀ d ∈ w', d ∈ w ∨ (r ++ ps)[x]? = some d) : ∀ (v : MV) (u0 u : V), VR K r w0 H0 v u0 → VR K (r ++ ps) w H v u → VR K r w' H v u
  | .non, _, u, f, q => by simpa [VR] using q
  | .bl _, _, u, f, q => by simpa [VR] using q
  | .int _, _, u, f, q => by simpa [VR] using q
  | .str _, _, u, f, q => by simpa [VR] using q
  | .scr _, _, u, f, q => by
    simp only [VR] at q ⊢
    obtain ⟨a, e, q⟩ := q
    rcases q with ⟨n, q⟩ | q
    · exact ⟨a, e, .inl ⟨out_old hw n, q⟩⟩
    · exact ⟨a, e, .inr q⟩
  | .ref m, u0, u, f, q => by
    simp only [VR] at f q ⊢
    obtain ⟨a0, _, hm⟩ := f
    obtain ⟨a, e, q⟩ := q
    rw [List.getElem?_append_left (List.getElem?_eq_some_iff.mp hm).1] at q
    exact ⟨a, e, q⟩
  | .tup ys, u0, u, f, q => by
    simp only [VR] at f q ⊢
    obtain ⟨_, us0, _, _, f⟩ := f
    obtain ⟨a, us, e, t, q⟩ := q
    exact ⟨a, us, e, ⟨out_old hw t.1, t.2⟩, vrs_old R hw ys us0 us f q⟩
  | .row ys, u0, u, f, q => by
    simp only [VR] at f q ⊢
    obtain ⟨_, us0, _, _, f⟩ := f
    obtain ⟨a, us, e, t, q⟩ := q
    exact ⟨a, us, e, t.elim (fun t => .inl ⟨out_old hw t.1, t.2⟩) .inr, vrs_old R hw ys us0 us f q⟩
  | .lst ys, u0, u, f, q => by
    simp only [VR] at f q ⊢
    obtain ⟨_, us0, _, _, _, f⟩ := f
    obtain ⟨a, us, e, n, t, q⟩ := q
    exact ⟨a, us, e, out_old hw n, t, vrs_old R hw ys us0 us f q⟩
  | .dK ys, u0, u, f, q => by
    simp only [VR] at f q ⊢
    obtain ⟨_, us0, _, _, _, f⟩ := f
    obtain ⟨a, us, e, n, t, q⟩ := q
    exact ⟨a, us, e, out_old hw n, t, vrk_old R hw ys us0 us f q⟩
  | .dT ys, u0, u, f, q => by
    simp only [VR] at f q ⊢
    obtain ⟨_, us0, _, _, _, f⟩ := f
    obtain ⟨a, us, e, n, t, q⟩ := q
    exact ⟨a, us, e, out_old hw n, t, vrt_old R hw ys us0 us f q⟩
theorem vrs_old {H0 : Hp} {w0 : List Addr} (R : Rel K (r ++ ps) w h2 H) (hw : ∀ d ∈ w', d ∈ w ∨ (r ++ ps)[x]? = some d) : ∀ (v : List MV) (u0 u : List V), VRs K r w0 H0 v u0 → VRs K (r ++ ps) w H v u → VRs K r w' H v u
  | [], _, u, f, q => by simpa [VRs] using q
  | y :: ys, u0, u, f, q => by
    simp only [VRs] at f q ⊢
    obtain ⟨_, _, _, f1, f2⟩ := f
    obtain ⟨u1, t, rfl, q1, q2⟩ := q
    exact ⟨u1, t, rfl, vr_old R hw y _ u1 f1 q1, vrs_old R hw ys _ t f2 q2⟩
theorem vrk_old {H0 : Hp} {w0 : List Addr} (R : Rel K (r ++ ps) w h2 H) (hw : ∀ d ∈ w', d ∈ w ∨ (r ++ ps)[x]? = some d) : ∀ (v : List (MK × MV)) (u0 u : List (Key × V)), VRk K r w0 H0 v u0 → VRk K (r ++ ps) w H v u → VRk K r w' H v u
  | [], _, u, f, q => by simpa [VRk] using q
  | (k, y) :: ys, u0, u, f, q => by
    simp only [VRk] at f q ⊢
    obtain ⟨_, _, _, f1, f2⟩ := f
    obtain ⟨u1, t, rfl, q1, q2⟩ := q
    exact ⟨u1, t, rfl, vr_old R hw y _ u1 f1 q1, vrk_old R hw ys _ t f2 q2⟩
theorem vrt_old {H0 : Hp} {w0 : List Addr} (R : Rel K (r ++ ps) w h2 H) (hw : ∀ d ∈ w', d ∈ w ∨ (r ++ ps)[x]? = some d) : ∀ (v : List (List MK × MV)) (u0 u : List (List Key × V)), VRt K r w0 H0 v u0 → VRt K (r ++ ps) w H v u → VRt K r w' H v u
  | [], _, u, f, q => by simpa [VRt] using q
  | (k, y) :: ys, u0, u, f, q => by
    simp only [VRt] at f q ⊢
    obtain ⟨_, _, _, f1, f2⟩ := f
    obtain ⟨u1, t, rfl, q1, q2⟩ := q
    exact ⟨u1, t, rfl, vr_old R hw y _ u1 f1 q1, vrt_old R hw ys _ t f2 q2⟩
end
theorem crel_old {H0 : Hp} {w0 : List Addr} (R : Rel K (r ++ ps) w h2 H) (hw : ∀ d ∈ w', d ∈ w ∨ (r ++ ps)[x]? = some d) {a a0 : Addr} {c : MC} (f : CRel K r w0 H0 a0 c) (q : CRel K (r ++ ps) w H a c) : CRel K r w' H a c := by
  cases c <;> simp only [CRel] at f q ⊢
  · obtain ⟨us0, _, f⟩ := f; obtain ⟨us, e, q⟩ := q; exact ⟨us, e, vrs_old R hw _ us0 us f q⟩
  · obtain ⟨us0, _, f⟩ := f; obtain ⟨us, e, q⟩ := q; exact ⟨us, e, vrk_old R hw _ us0 us f q⟩
  · obtain ⟨us0, _, f⟩ := f; obtain ⟨us, e, q⟩ := q; exact ⟨us, e, vrt_old R hw _ us0 us f q⟩
  · obtain ⟨_, us0, _, f⟩ := f; obtain ⟨o, us, e, q⟩ := q; exact ⟨o, us, e, vrk_old R hw _ us0 us f q⟩
  · obtain ⟨_, us0, _, f⟩ := f; obtain ⟨o, us, e, q⟩ := q; exact ⟨o, us, e, vrt_old R hw _ us0 us f q⟩
  · obtain ⟨e, ps, q1, q2, q3⟩ := q
    refine ⟨e, ps, q1, q2, fun pos cv hc => ?_⟩
    obtain ⟨c, e1, n, e2⟩ := q3 pos cv hc
    exact ⟨c, e1, out_old hw n, e2⟩
theorem crel_frz (R : Rel K (r ++ ps) w h2 H) (hw : ∀ d ∈ w', d ∈ w ∨ (r ++ ps)[x]? = some d) {a : Addr} {c2 c : MC} (f : CFrz h2 r.length x c2 c) (q : CRel K (r ++ ps) w H a c2) : CRel K r w' H a c := by
  cases c <;> cases c2 <;> simp only [CFrz] at f <;> simp only [CRel] at q ⊢
  · obtain ⟨us, e, q⟩ := q; exact ⟨us, e, frzs_vr R hw _ _ us f q⟩
  · obtain ⟨us, e, q⟩ := q; exact ⟨us, e, frzk_vr R hw _ _ us f q⟩
  · obtain ⟨us, e, q⟩ := q; exact ⟨us, e, frzt_vr R hw _ _ us f q⟩
  · obtain ⟨o, us, e, q⟩ := q; exact ⟨o, us, e, frzk_vr R hw _ _ us f q⟩
  · obtain ⟨o, us, e, q⟩ := q; exact ⟨o, us, e, frzt_vr R hw _ _ us f q⟩
/-- the cells that stood -/
theorem rel_cel {h h' : MH} {H0 : Hp} (R0 : Rel K r w h H0) (R : Rel K (r ++ ps) w h2 H) (hw : ∀ d ∈ w', d ∈ w ∨ (r ++ ps)[x]? = some d) (hx : ∀ d, (r ++ ps)[x]? = some d → d ∉ r) (c : CelOK h h2 h' x) (nd : ∀ d ∈ w', ∃ o, H d = some o ∧ ∀ us, o ≠ HO.tup us) : Rel K r w' h' H := by
  obtain ⟨l1, l2, l3⟩ := c
  refine ⟨by rw [l1]; exact R0.len, R0.nd, fun i a c' hi hc' => ?_, fun d hd => ⟨?_, nd d hd⟩⟩
  · have hi2 : (r ++ ps)[i]? = some a := by rw [List.getElem?_append_left (List.getElem?_eq_some_iff.mp hi).1]; exact hi
    rcases l3 i c' hc' with ⟨e1, e2⟩ | ⟨c2, e1, e2⟩
    · exact crel_old R hw (R0.at_ i a c' hi e2) (R.at_ i a c' hi2 e1)
    · rw [← R0.len] at e2
      exact crel_frz R hw e2 (R.at_ i a c2 hi2 e1)
  · rcases hw d hd with q | q
    · exact fun z => (R.wh d q).1 (List.mem_append_left _ z)
    · exact hx d q
end
section
variable {P : Program} {w : World} {K : PySem.W.Frag} {mg : Str → Option Value} {base : Heap} {x : Str} {n k : Nat} {g c : Fn}
theorem Cal.told (F : Cal P w K mg base x n (spM K n g) k) (hc : ∀ args h v h', c args h = some (v, h') → FrzOK g args h v h') : Cal P w K mg base x n (spM K n c) k := F.imp fun us H Q E ⟨hl, r, w', h, vs, v, h', R, V, e, C⟩ => by
  obtain ⟨v2, h2, e2, cel, fz⟩ := hc vs h v h' e
  refine ⟨hl, r, w', h, vs, v2, h2, R, V, e2, fun r2 u H2 F2 R2 V2 => ?_⟩
  obtain ⟨⟨ps, rfl, hps⟩, kp, fr⟩ := F2
  have hx : ∀ d, (r ++ ps)[h2.length]? = some d → False := fun d e => by
    have := (List.getElem?_eq_some_iff.mp e).1
    rw [R2.len] at this
    omega
  rw [← R.len] at fz
  have hw : ∀ d ∈ w', d ∈ w' ∨ (r ++ ps)[h2.length]? = some d := fun d hd => .inl hd
  refine C r u H2 ⟨⟨[], by simp, fun _ z => nomatch z⟩, kp, fr⟩ (rel_cel R R2 hw (fun d e => (hx d e).elim) cel fun d hd => (R2.wh d hd).2) (frz_vr R2 hw v v2 u fz V2)
theorem Cal.fresh (F : Cal P w K mg base x n (spM K n g) k) (hc : ∀ args h v h', c args h = some (v, h') → FrzF g args h v h') : Cal P w K mg base x n (spF K n c) k := F.imp fun us H Q E ⟨hl, r, w', h, vs, v, h', R, V, e, C⟩ => by
  obtain ⟨m, c2, h2, e2, hm, em, cel, fz⟩ := hc vs h v h' e
  refine ⟨hl, r, w', h, vs, .ref m, h2, R, V, e2, fun r2 u H2 F2 R2 V2 => ?_⟩
  obtain ⟨⟨ps, rfl, hps⟩, kp, fr⟩ := F2
  simp only [VR] at V2
  obtain ⟨p, rfl, hp⟩ := V2
  have hpps : p ∈ ps := by
    rw [List.getElem?_append_right (by rw [R.len]; exact hm)] at hp
    exact List.mem_of_getElem? hp
  have hp0 : H p = none := hps p hpps
  have hpr : p ∉ r := R.nin hp0
  have hw : ∀ d ∈ p :: w', d ∈ w' ∨ (r ++ ps)[m]? = some d := fun d hd => by
    rcases List.mem_cons.mp hd with rfl | hd
    · exact .inr hp
    · exact .inl hd
  have hc2 := R2.at_ m p c2 hp em
  rw [← R.len] at fz
  have Rn : Rel K r (p :: w') h' H2 := rel_cel R R2 hw (fun d e => by rw [hp] at e; cases e; exact hpr) cel fun d hd => by
    rcases List.mem_cons.mp hd with rfl | hd
    · exact hc2.ntup
    · exact (R2.wh d hd).2
  refine C r p H2 ⟨⟨[], by simp, fun _ z => nomatch z⟩, kp, fr⟩ hp0 Rn ?_
  cases c2 <;> cases v <;> simp only at fz <;> simp only [CRel] at hc2 <;> simp only [VF]
  · obtain ⟨us, e, q⟩ := hc2; exact ⟨us, e, frzs_vr R2 hw _ _ us fz q⟩
  · obtain ⟨us, e, q⟩ := hc2; exact ⟨us, e, frzk_vr R2 hw _ _ us fz q⟩
  · obtain ⟨us, e, q⟩ := hc2; exact ⟨us, e, frzt_vr R2 hw _ _ us fz q⟩
end
/-! ### the law -/
/-- a def as it stands behind the top -/
def DefAt (K : PySem.W.Frag) (x : Str) (st : Stmt) (f : Addr) (fd : FuncData) : Prop := PySem.W.nsIn K mainGlobals x = some (some (.ref f)) ∧ L2.Fun K x x st f fd
omit [Tabs] in
theorem defAt_mk {K : PySem.W.Frag} {x : Str} {st : Stmt} {f : Addr} {od an : Option Addr} {sl : Array (Option Value)} {oc kV dc pm cd ct : Value} (a : PySem.W.nsIn K mainGlobals x = some (some (.ref f)))
    (l : K.lookup f = some ⟨oc, od, .func (PySem.W.fnOf x x (defArgs st) (defBody st) (defScope st) .none kV dc pm an cd ct), sl⟩) (c : PySem.W.codeIn K cd x = true) (k : PySem.W.keepIn K (.ref f) = true) :
    DefAt K x st f (PySem.W.fnOf x x (defArgs st) (defBody st) (defScope st) .none kV dc pm an cd ct) := ⟨a, fun_mk l c k⟩
/-- the law's promise from its function; ts: the tables of the defs that make lambdas -/
def spLawT (K : PySem.W.Frag) (ts : List Addr) : Sp := fun us H Q _ => ∃ (a : Addr) (ns : List Int), us = [.ref a] ∧ SqL K H a (ns.map V.int) ∧ ns.length ≤ 63 ∧ (∀ z ∈ ns, Builtin.Int.intBits z ≤ 1048576) ∧ (∀ p ∈ ts, H p = some (.tbl #[])) ∧ ∀ H', Q (.bl true) H'
def spLaw (K : PySem.W.Frag) : Sp := fun us H Q _ => ∃ (a : Addr) (ns : List Int), us = [.ref a] ∧ SqL K H a (ns.map V.int) ∧ ns.length ≤ 63 ∧ (∀ z ∈ ns, Builtin.Int.intBits z ≤ 1048576) ∧ Only H ∧ ∀ H', Q (.bl true) H'
theorem law_fnT {P : Program} {w : World} {K : PySem.W.Frag} {mg : Str → Option Value} {base : Heap} {k : Nat} {f : Addr} {fd : FuncData} {ps : List Str} {g : Fn} {ts : List Addr} (F : FnOk P w K mg base CX0 k f fd ps (spM K 1 g)) (nd : ts.Nodup) (ad : ∀ n p, ts[n]? = some p → p = Tabs.adr n)
    (h : ∀ ns : List Int, ns.length ≤ 63 → (∀ z ∈ ns, Builtin.Int.intBits z ≤ 1048576) → ∃ h', g [.scr ns] (tabs0 ts.length) = some (.bl true, h')) : FnOk P w K mg base CX0 k f fd ps (spLawT K ts) := F.imp fun us H Q E ⟨a, ns, e, sq, hl, hb, hT, q⟩ => by
  subst e
  obtain ⟨h', e⟩ := h ns hl hb
  refine ⟨rfl, ts, [], tabs0 ts.length, [.scr ns], .bl true, h', ⟨by simp [tabs0], nd, fun n a c hn hc => ?_, fun d hd => nomatch hd⟩, ?_, e, fun r' u H' F' R' V' => ?_⟩
  · have hl := (List.getElem?_eq_some_iff.mp hn).1
    unfold tabs0 at hc
    rw [List.getElem?_map, List.getElem?_range hl] at hc
    cases hc
    simp only [CRel]
    refine ⟨ad n a hn, #[], hT a (List.mem_of_getElem? hn), True.intro, fun pos cv z => ?_⟩
    have z : codeAmong pos [] = some cv := z
    simp [codeAmong] at z
  · simp only [VRs, VR]
    refine ⟨.ref a, [], rfl, ⟨a, rfl, ?_⟩, rfl⟩
    rcases sq with sq | sq
    · refine .inl ⟨⟨fun z => ?_, by simp⟩, sq⟩
      have := hT a z
      rcases sq with sq | ⟨o, sq⟩ <;> rw [sq] at this <;> cases this
    · exact .inr sq
  · simp only [VR] at V'
    subst V'
    exact q H'
theorem law_fn {P : Program} {w : World} {K : PySem.W.Frag} {mg : Str → Option Value} {base : Heap} {k : Nat} {f : Addr} {fd : FuncData} {ps : List Str} {g : Fn} (F : FnOk P w K mg base CX0 k f fd ps (spM K 1 g))
    (h : ∀ ns : List Int, ns.length ≤ 63 → (∀ z ∈ ns, Builtin.Int.intBits z ≤ 1048576) → ∃ h', g [.scr ns] [] = some (.bl true, h')) : FnOk P w K mg base CX0 k f fd ps (spLaw K) :=
  (law_fnT (ts := []) F List.nodup_nil (fun n p e => by simp at e) h).imp fun us H Q E ⟨a, ns, e, sq, hl, hb, _, q⟩ => ⟨a, ns, e, sq, hl, hb, fun p hp => (nomatch hp), q⟩
end Ew
end

section
set_option Elab.async false
set_option linter.all false
set_option maxRecDepth 100000
set_option maxHeartbeats 4000000
/-! EwJ: more rules: dicts, lists joined, sorted, == of dicts. -/
namespace Ew
open PySem PySem.Spec PyProof.Rows L2
variable [Tabs]
section
variable {K : PySem.W.Frag} {X : Cx} {e a b c o i : Expr} {m ma mb mc mo mi : XE} {pos p : Pos} {es : List Expr} {mas : XA}
/-! ### lists, tuples joined and cut -/
theorem lstC_at {r w : List Addr} {h : MH} {H : Hp} {v : MV} {u : V} {xs : List MV} (R : Rel K r w h H) (q : VR K r w H v u) (e : lstC h v = some xs) : ∃ p us, u = .ref p ∧ H p = some (.lst us) ∧ VRs K r w H xs us := by
  cases v <;> simp only [lstC, reduceCtorEq, Option.some.injEq] at e
  · subst e
    simp only [VR] at q
    obtain ⟨a, us, rfl, _, t, q⟩ := q
    exact ⟨a, us, rfl, t, q⟩
  · split at e
    · rename_i ys e1
      simp only [Option.some.injEq] at e; subst e
      obtain ⟨a, us, rfl, _, t, q⟩ := ref_at R q e1
      exact ⟨a, us, rfl, t, q⟩
    · cases e
theorem bin_wkF {f : MH → MV → MV → Option MV} {t : R2} (hr : ∀ r w h H x y v u1 u2 Q, Rel K r w h H → VR K r w H x u1 → VR K r w H y u2 → f h x y = some v → ContF K r w h H v Q → t u1 u2 H Q) :
    ∀ z H Q, tF K (xOp f ma mb) z H Q → tOp t (tM K ma) (tM K mb) z H Q := fun z H Q ⟨r, w, s, h, v, h', R, S, e, C⟩ => by
  obtain ⟨x, h1, y, e1, e2, e3⟩ := xOp_at e
  exact ⟨r, w, s, h, x, h1, R, S, e1, fun r1 u1 H1 F1 R1 V1 => ⟨r1, w, s, h1, y, h', R1, S.fwd F1, e2, fun r2 u2 H2 F2 R2 V2 =>
    hr r2 w h' H2 x y v u1 u2 Q R2 (VR.fwd F2 _ _ V1) V2 e3 ((C.fwd F1 R1).fwd F2 R2)⟩⟩
theorem mf_cat (ha : ME X a ma) (hb : ME X b mb) : MF X (.BinOp a .Add b pos) (xCat ma mb) := PE.wk (pe_op op_cat ha hb) (bin_wkF fun r w h H x y v u1 u2 Q R V1 V2 e C => by
  unfold opCat at e
  split at e
  · rename_i xs ys e1 e2
    split at e
    · rename_i hl
      simp only [Option.some.injEq] at e; subst e
      obtain ⟨p1, us, rfl, t1, q1⟩ := lstC_at R V1 e1
      obtain ⟨p2, ws, rfl, t2, q2⟩ := lstC_at R V2 e2
      refine ⟨p1, p2, us, ws, rfl, rfl, t1, t2, ?_, fun p hp => C.lst R hp (VRs.append q1 q2)⟩
      rw [← VRs.length q1, ← VRs.length q2, ← szl]; exact hl
    · cases e
  · cases e)
/-! ### the first place -/
theorem find_of {α : Type} {f : α → Bool} : ∀ {xs : List α} {j : Nat}, xs.findIdx? f = some j → ∃ z, xs[j]? = some z ∧ f z = true ∧ ∀ m y, m < j → xs[m]? = some y → f y = false := by
  intro xs j e
  obtain ⟨h1, h2, h3⟩ := List.findIdx?_eq_some_iff_getElem.mp e
  refine ⟨xs[j], List.getElem?_eq_getElem h1, h2, fun m y hm ey => ?_⟩
  have := h3 m hm
  obtain ⟨hl, rfl⟩ := List.getElem?_eq_some_iff.mp ey
  simpa using this
/-- the call of a method of a tuple that has no dict -/
def tBMr (K : PySem.W.Frag) (r : V → List V → Hp → VK → Prop) (to : TE) (t : TA) : TE := fun σ H Q => to σ H fun x H1 => (∃ p o us, x = .ref p ∧ o.cls = .type "tuple" ∧ o.dict = none ∧ (H1 p = some (.frz o (.tup us)) ∨ K.lookup p = some o)) ∧ t σ H1 fun xs H2 => r x xs H2 Q
theorem pe_bmR {name : Str} {apos cpos : Pos} {id : String} {r : V → List V → Hp → VK → Prop} {to : TE} {t : TA} (pa : PlainAttrs "tuple") (slot : Slot "tuple" name id) (hty : typeOf (.builtin id) = pure (.type "method_descriptor")) (hm : MtR X id r) (ho : PE X o to) (ha : PA X (e :: es) t)
    (hbase : attributeBase o name X.env (eval o X.env) = eval o X.env := by rfl)
    (hfew : ((backTo cpos (starEach (e :: es) X.env)).all (fun x => !x.1) && (backToKw cpos (keywordEach [] X.env)).all (fun x => x.1.isSome)
      && decide ((e :: es).length + ([] : List Keyword).length + (if ([] : List Keyword).isEmpty then 0 else 1) < 30)) = true := by rfl)
    (hline : (apos.endLine == cpos.line) = true := by rfl) (hs : starEach (e :: es) X.env = (false, eval e X.env) :: starEach es X.env := by rfl) (hplain : (backTo cpos (starEach es X.env)).any (·.1) = false := by rfl) :
    PE X (.Call (.Attribute o name apos) (e :: es) [] cpos) (tBMr X.K r to t) := by
  refine ⟨fun pins s σ H Q I h => ?_⟩
  refine wpAny_Call_method_late hbase hfew hline rfl (thn (ho.run pins s σ H _ I h) fun v s1 ⟨x, H1, I1, r1, ⟨p, ob, us, hx, hc, hd, hp⟩, q1⟩ => ?_)
  subst hx
  cases r1
  have h1 : s1.heap.get? p = some ob := by
    rcases hp with hp | hp
    · exact (I1.hok p _ hp).1
    · exact I1.kIn p ob hp
  refine ⟨"tuple", id, pa, slot, hty, ⟨ob, h1, hc⟩, fun a ea => by cases ea; exact ⟨ob, h1, hd⟩, ?_⟩
  have hA := ha.run cpos pins s1 σ H1 _ I1 q1
  rw [hs] at hA ⊢
  refine Calls.callWith_builtin (by show (false || (backTo cpos (starEach es X.env)).any (·.1)) = false; rw [hplain] <;> rfl) (Calls.evalArgs_plain ?_)
  exact thn hA fun us s2 ⟨vs, H2, I2, r2, q2⟩ => hm pins s2 σ H2 (.ref p) vs (Value.ref p) us Q I2 (show RelV (V.ref p) (Value.ref p) from rfl) r2 q2
/-- t.index(k), ints, k is there -/
theorem mt_indexT : MtR X "tuple.index" (fun x xs H Q => ∃ (a : Addr) (ns : List Int) (k : Int), x = .ref a ∧ xs = [.int k] ∧ SqT X.K H a (ns.map V.int) ∧ k ∈ ns ∧ Q (.int (ns.idxOf k : Nat)) H) := by
  intro pins s σ H x xs v us Q I rx rxs h
  obtain ⟨a, ns, k, rfl, rfl, sq, hk, q⟩ := h
  cases rx
  obtain ⟨u, rfl, t, rfl⟩ := vals1 rxs
  obtain ⟨its, rv, pl, _⟩ := I.tuple sq
  exact PySem.SeqAt.tuple_index_ints (vs := its) pl rv.ints hk ⟨.int _, H, I.tok _, ⟨_, rfl⟩, q⟩
theorem me_indexL {apos : Pos} (ho : ME X o mo) (he : ME X e m) (hbase : attributeBase o "index" X.env (eval o X.env) = eval o X.env := by rfl)
    (hfew : ((backTo pos (starEach [e] X.env)).all (fun x => !x.1) && (backToKw pos (keywordEach [] X.env)).all (fun x => x.1.isSome) && decide ([e].length + ([] : List Keyword).length + (if ([] : List Keyword).isEmpty then 0 else 1) < 30)) = true := by rfl)
    (hline : (apos.endLine == pos.line) = true := by rfl) (hs : starEach (e :: []) X.env = (false, eval e X.env) :: starEach [] X.env := by rfl) (hpl : (backTo pos (starEach [] X.env)).any (·.1) = false := by rfl) :
    ME X (.Call (.Attribute o "index" apos) [e] [] pos) (xOp opIndexL mo m) := PE.wk (PE.or2 (pe_bm PySem.F.plainAttrs_list PySem.F.slot_list_index PySem.F.type_list_index mt_index ho (pa_cons he pa_nil hs) hbase hfew hline hs hpl) (pe_bmR PySem.F.plainAttrs_tuple PySem.F.slot_tuple_index PySem.F.type_tuple_index mt_indexT ho (pa_cons he pa_nil hs) hbase hfew hline hs hpl)) fun z H Q ⟨r, w, s, h, v, h', R, S, e, C⟩ => by
  obtain ⟨x, h1, y, e1, e2, e3⟩ := xOp_at e
  by_cases hrow : ∃ xs, x = .row xs
  · obtain ⟨xs, rfl⟩ := hrow
    simp only [opIndexL, opIndexR] at e3
    split at e3
    · rename_i ns k e4
      split at e3
      · rename_i hk
        simp only [Option.some.injEq] at e3
        subst e3
        refine .inr ⟨r, w, s, h, _, h1, R, S, e1, fun r1 u1 H1 F1 R1 V1 => ?_⟩
        have V1' := V1
        simp only [VR] at V1'
        obtain ⟨p, us, rfl, t0, q⟩ := V1'
        have t0' : ∃ o : Obj, o.cls = .type "tuple" ∧ o.dict = none ∧ (H1 p = some (.frz o (.tup us)) ∨ X.K.lookup p = some o) := by
          rcases t0 with ⟨_, o, hc, hd, t⟩ | ⟨o, its, n, t, hc, hd, _⟩
          · exact ⟨o, hc, hd, .inl t⟩
          · exact ⟨o, hc, hd, .inr t⟩
        obtain ⟨o, hc, hd, t⟩ := t0'
        refine ⟨⟨p, o, us, rfl, hc, hd, t⟩, r1, w, s, h1, _, h', R1, S.fwd F1, e2, fun r2 u2 H2 F2 R2 V2 => ?_⟩
        have V3 := VR.fwd F2 _ _ V1
        simp only [VR] at V2 V3
        subst V2
        obtain ⟨p', us', e6, t', q'⟩ := V3
        cases e6
        have e5 := ints_of q' e4
        subst e5
        exact ⟨p, ns, k, rfl, rfl, t'.sq, hk, ((C.fwd F1 R1).fwd F2 R2).now R2 (by simp only [VR])⟩
      · cases e3
    · cases e3
  replace e3 : opIndexL0 h' x y = some v := by
    unfold opIndexL at e3
    split at e3
    · exact absurd ⟨_, rfl⟩ hrow
    · exact e3
  refine .inl ?_
  unfold opIndexL0 at e3
  split at e3
  · rename_i xs e4
    split at e3
    · rename_i f
      rw [Bool.and_eq_true] at f
      cases e5 : xs.findIdx? fun z => feqM z y with
      | none => rw [e5] at e3; cases e3
      | some j =>
        rw [e5] at e3
        simp only [Option.map_some, Option.some.injEq] at e3
        subst e3
        refine ⟨r, w, s, h, x, h1, R, S, e1, fun r1 u1 H1 F1 R1 V1 => ?_⟩
        cases x <;> simp only [lstV, reduceCtorEq, Option.some.injEq] at e4
        rename_i ys
        subst e4
        have V1' := V1
        simp only [VR] at V1'
        obtain ⟨p, us, rfl, _, t, q⟩ := V1'
        refine ⟨.inl ⟨rfl, us, SqL.of t⟩, r1, w, s, h1, y, h', R1, S.fwd F1, e2, fun r2 u2 H2 F2 R2 V2 => ?_⟩
        have V3 := VR.fwd F2 _ _ V1
        simp only [VR] at V3
        obtain ⟨p', us', e6, _, t', q'⟩ := V3
        cases e6
        obtain ⟨z, g1, g2, g3⟩ := find_of e5
        obtain ⟨uz, g4, g5⟩ := VRs.get q' g1
        have fz : flatM z = true := List.all_eq_true.mp f.2 z (List.mem_of_getElem? g1)
        refine ⟨p, us', u2, j, uz, rfl, rfl, SqL.of t', flat_of V2 f.1, flats_of q' f.2, g4, by rw [feq_of V2 g5 f.1 fz]; exact g2, fun m z' hm hz' => ?_, ((C.fwd F1 R1).fwd F2 R2).now R2 (by simp only [VR])⟩
        obtain ⟨y', g6, g7⟩ := VRs.back q' hz'
        rw [feq_of V2 g7 f.1 (List.all_eq_true.mp f.2 y' (List.mem_of_getElem? g6))]
        exact g3 m y' hm g6
    · cases e3
  · cases e3
/-! ### displays -/
abbrev prs (K : PySem.W.Frag) (ps : List (XE × XE)) : List (TE × TE) := ps.map fun q => (tM K q.1, tM K q.2)
abbrev MPs (X : Cx) (pos : Pos) (ks : List (Option Expr)) (vs : List Expr) (ps : List (XE × XE)) : Prop := PPs X pos ks vs (prs X.K ps)
theorem mp_nil : MPs X pos [] [] [] := pps_nil
theorem mp_cons {ks : List (Option Expr)} {vs : List Expr} {ps : List (XE × XE)} (hk : ME X a ma) (hv : ME X b mb) (hr : MPs X pos ks vs ps) : MPs X pos (some a :: ks) (b :: vs) ((ma, mb) :: ps) := pps_cons hk hv hr
theorem pairs_of {s : SM} {z : L2.St} : ∀ {ps : List (XE × XE)} {r w : List Addr} {h h' : MH} {H : Hp} {kvs : List (MK × MV)} {Q : List (V × V) → Hp → Prop}, Rel K r w h H → SR K r w H s z → xPairs ps s h = some (kvs, h') →
    (∀ r' us H', Fwd r H r' H' → Rel K r' w h' H' → VRk K r' w H' kvs us → Q (us.map fun kv => (kV kv.1, kv.2)) H') → tPairs (prs K ps) z H Q
  | [], r, w, h, h', H, kvs, Q, R, S, e, k => by
    simp only [xPairs, Option.some.injEq, Prod.mk.injEq] at e
    obtain ⟨rfl, rfl⟩ := e
    exact k r [] H (Fwd.refl r H) R (by simp [VRk])
  | (a, b) :: ps, r, w, h, h', H, kvs, Q, R, S, e, k => by
    simp only [xPairs] at e
    cases e1 : a s h with
    | none => simp [e1] at e
    | some p1 =>
      obtain ⟨x, h1⟩ := p1
      simp only [e1] at e
      cases e2 : b s h1 with
      | none => simp [e2] at e
      | some p2 =>
        obtain ⟨y, h2⟩ := p2
        simp only [e2] at e
        cases e3 : keyOf x with
        | none => simp [e3] at e
        | some kk =>
          simp only [e3] at e
          cases e4 : xPairs ps s h2 with
          | none => simp [e4] at e
          | some p3 =>
            obtain ⟨qs, h3⟩ := p3
            simp only [e4, Option.some.injEq, Prod.mk.injEq] at e
            obtain ⟨rfl, rfl⟩ := e
            refine ⟨r, w, s, h, x, h1, R, S, e1, fun r1 u1 H1 F1 R1 V1 => ⟨r1, w, s, h1, y, h2, R1, S.fwd F1, e2, fun r2 u2 H2 F2 R2 V2 => ?_⟩⟩
            refine pairs_of R2 ((S.fwd F1).fwd F2) e4 fun r3 us H3 F3 R3 V3 => ?_
            have ek := key_kV V1 e3
            subst ek
            exact k r3 ((kk, u2) :: us) H3 ((F1.tr R1 F2).tr R2 F3) R3 (by simp only [VRk]; exact ⟨u2, us, rfl, VR.fwd F3 _ _ V2, V3⟩)
theorem merge_vr {r w : List Addr} {H : Hp} : ∀ {more kvs : List (MK × MV)} {us ws : List (Key × V)}, VRk K r w H kvs us → VRk K r w H more ws → VRk K r w H (mergeM kvs more) (mergeK us ws)
  | [], kvs, us, ws, q, q2 => by simp only [VRk] at q2; subst q2; exact q
  | (k, v) :: more, kvs, us, ws, q, q2 => by
    simp only [VRk] at q2
    obtain ⟨u, t, rfl, q3, q4⟩ := q2
    show VRk K r w H (mergeM (putM kvs k v) more) (mergeK (putK us k u) t)
    exact merge_vr (VRk.put k q3 q) q4
theorem mf_disp {ks : List (Option Expr)} {vs : List Expr} {ps : List (XE × XE)} (hp : MPs X pos ks vs ps) (hall : ks.all (·.isSome) = true := by rfl) (hl : ks.length = vs.length := by rfl) (h0 : ks ≠ [] := by decide) (h15 : ks.length ≤ 15 := by decide) :
    MF X (.Dict ks vs pos) (xDisp ps) := PE.wk (pe_disp hp hall hl h0 h15) fun z H Q ⟨r, w, s, h, v, h', R, S, e, C⟩ => by
  unfold xDisp at e
  split at e
  · cases e
  · rename_i kvs h1 e1
    split at e
    · rename_i hle
      simp only [Option.some.injEq, Prod.mk.injEq] at e
      obtain ⟨rfl, rfl⟩ := e
      intro p hp0
      refine pairs_of (R.hold hp0) (S.map (Stp.hold R hp0)) e1 fun r2 us H2 F2 R2 V2 => ?_
      have hpr : p ∉ r := R.nin hp0
      have eP : H2 p = some (.dK []) := F2.keep p _ hpr upd_same
      have hm : p ∈ p :: w := List.mem_cons_self
      have nP2 : p ∉ r2 := (R2.wh p hm).1
      refine ⟨eP, us, rfl, by rw [← VRk.length V2]; exact hle, ?_⟩
      have F3 : Fwd r H r2 (upd H2 p (.dK (mergeK [] us))) := by
        refine ⟨?_, fun a o n ea => ?_, fun a o u ea => ?_⟩
        · obtain ⟨qs, rfl, hq⟩ := F2.ext
          refine ⟨qs, rfl, fun q hqm => ?_⟩
          have := hq q hqm
          by_cases ne : q = p
          · subst ne; rw [upd_same] at this; cases this
          · rwa [upd_ne ne] at this
        · have ne : a ≠ p := ne_of_none ea hp0
          rw [upd_ne ne]
          exact F2.keep a o n (by rw [upd_ne ne]; exact ea)
        · have ne : a ≠ p := ne_of_none ea hp0
          rw [upd_ne ne]
          exact F2.frz a o u (by rw [upd_ne ne]; exact ea)
      refine C r2 p _ F3 hp0 (R2.held hm) ?_
      simp only [VF]
      exact ⟨_, upd_same, VRk.map (Stp.held hm) _ _ (merge_vr (by simp [VRk]) V2)⟩
    · cases e
end
/-! ### the keys' view -/
def KeysO (d v : Addr) : HO := .ext fun h => PySem.W.KdlKeysView h v d
section
variable {X : Cx} {o : Expr} {mo : XE} {pos p q apos ppos : Pos}
theorem keys_new {P : Program} {w : World} {H : Hp} {d : Addr} (h : Heap) : ObjOk P w H (h.push { cls := .type "dict_keys", data := .fields #[.ref d] }) h.objs.size (KeysO d h.objs.size) :=
  ⟨⟨_, Heap.get?_push_size _ rfl, rfl, rfl⟩, ⟨_, Heap.get?_push_size _ rfl⟩, fun h1 h2 ⟨o, e, c, dd⟩ k => ⟨o, k o e, c, dd⟩⟩
/-- d.keys() of a dict, locked or not -/
theorem pe_keysV {td : TE} (ho : PE X o td) (hbase : attributeBase o "keys" X.env (eval o X.env) = eval o X.env := by rfl) (hline : (apos.endLine == pos.line) = true := by rfl) :
    PE X (.Call (.Attribute o "keys" apos) [] [] pos) (fun z H Q => td z H fun u H1 => ∃ d kvs, u = .ref d ∧ Rd H1 d (.dK kvs) ∧ ∀ v, H1 v = none → Q (.ref v) (upd H1 v (KeysO d v))) := by
  refine ⟨fun pins s σ H Q I h => ?_⟩
  refine wpAny_Call_method0_late hbase hline (thn (ho.run pins s σ H _ I h) fun v s1 ⟨x, H1, I1, r1, d, kvs, ex, rd, q1⟩ => ?_)
  subst ex
  obtain rfl : v = Value.ref d := r1
  obtain ⟨z, lo, vs, rel, dd⟩ := dk_rd I1.hok rd
  refine ⟨"dict", "dict.keys", F.plainAttrs_dict, F.slot_dict_keys, F.type_dict_keys, dd.typeIs, dd.mapOf.noDict, ?_⟩
  refine Calls.callWith_builtin rfl (PySem.evalArgs_none ?_)
  refine call_meetsIn F.slot_dict_keys dd.typeIs F.entry_dict_keys (F.args_dict_keys_1 _) (PySem.W.kdl_meets_keys (mixKind X.prog X.w) d lo) ⟨⟨vs, dd⟩, ?_⟩
  exact ⟨.ref s1.heap.objs.size, _, I1.laid (a := s1.heap.objs.size) (o := KeysO d s1.heap.objs.size) (t' := s1.toks) (fun _ _ q => Heap.get?_push_of_some _ q) (Nat.le_refl _) (keys_new s1.heap), rfl, q1 _ (I1.hok.fresh (Nat.le_refl _))⟩
theorem view_of {pins : List (Addr × Obj)} {σ : L2.St} {H : Hp} {s : Shared} {d v : Addr} (I : Inv X pins σ H s) (e : H v = some (KeysO d v)) : PySem.W.KdlKeysView s.heap v d := (I.hok v _ e).1
/-- list(d.keys()) -/
theorem call_listKeys (hcalm : X.calm = true) : CallR X (.type "list") (fun xs H Q => ∃ (v d : Addr) (kvs : List (Key × V)), xs = [.ref v] ∧ H v = some (KeysO d v) ∧ Rd H d (.dK kvs) ∧ ∀ p, H p = none → Q (.ref p) (upd H p (.lst (kvs.map fun kv => kV kv.1)))) := by
  intro pins s σ H xs us Q I r q
  obtain ⟨v, d, kvs, rfl, hv, hd, q⟩ := q
  obtain ⟨u, rfl, rx⟩ := vals1 r
  cases rx
  obtain ⟨z, lo, vs, rel, dd⟩ := dk_rd I.hok hd
  obtain ⟨ep, hat⟩ := dd.dictAt
  have ek : (kvs.map fun kv => kV kv.1) = vs.map fun p => kV p.1 := by
    have e := congrArg (List.map kV) rel.keys
    rw [List.map_map, List.map_map] at e
    exact e
  refine PySem.W.kdl_call (PySem.W.kdl_keys (knd := mixKind X.prog X.w) (kvs := vs) (ep := ep)) (I.ok.hd hcalm) ⟨view_of I hv, hat⟩ (by rw [← rel.length]; exact z) fun h' tk acc c' hk hD hacc => ?_
  have hvs : Vals (vs.map fun p => kV p.1) acc.toList := keys_at (by rw [Array.length_toList]; exact hacc.1) fun j v e => hacc.2 j v (by rw [← Array.getElem?_toList]; exact e)
  refine ⟨.ref s.heap.objs.size, _, I.laid (t' := tk) (o := .lst (kvs.map fun kv => kV kv.1)) hk (Nat.le_refl _) ⟨by rw [List.length_map]; exact z, acc.toList, c', by rw [ek]; exact hvs, by rw [Array.toArray_toList]; exact hD⟩, rfl, q _ (I.hok.fresh (Nat.le_refl _))⟩
/-- sorted(d.keys()), ints, any number of them -/
theorem call_sortedKeys (hcalm : X.calm = true) : CallR X (.builtin "sorted") (fun xs H Q => ∃ (v d : Addr) (kvs : List (Key × V)) (ks : List Int), xs = [.ref v] ∧ H v = some (KeysO d v) ∧ Rd H d (.dK kvs) ∧ kvs.map (·.1) = ks.map Sum.inl ∧
    ∀ (ys : List Int) (p : Addr), ys.Perm ks → ys.Pairwise (· ≤ ·) → H p = none → Q (.ref p) (upd H p (.lst (ys.map V.int)))) := by
  intro pins s σ H xs us Q I r q
  obtain ⟨v, d, kvs, ks, rfl, hv, hd, hks, q⟩ := q
  obtain ⟨u, rfl, rx⟩ := vals1 r
  cases rx
  obtain ⟨z, lo, vs, rel, dd⟩ := dk_rd I.hok hd
  obtain ⟨ep, hat⟩ := dd.dictAt
  have hkeys : vs.map (·.1) = ks.map Sum.inl := rel.keys.symm.trans hks
  have hl : vs.length = ks.length := by simpa using congrArg List.length hkeys
  have h16 : vs.length ≤ sizeLine := by rw [← rel.length]; exact z
  refine Calls.call_function_entry PyProof.Rows.kind_sorted PyProof.Rows.plain_sorted PyProof.Rows.entry_sorted (PyProof.Rows.args_sorted1 _) ?_
  unfold Builtin.«sorted»
  refine wpAny_bind (m := checkCount "sorted" 1 1 _) (wpAny_pure ?_)
  refine wpAny_bind (PySem.W.kdu_collect (A := X.A.in1) (PySem.W.kdl_keys (knd := mixKind X.prog X.w) (kvs := vs) (ep := ep)) (I.ok.hd hcalm) ⟨view_of I hv, hat⟩ h16 fun h' tk acc hk hacc => ?_)
  have hal : acc.toList.length = ks.length := by rw [Array.length_toList, hacc.1, hl]
  have hS : IntsAre acc.toList ks := ints_each hal fun j v e => by
    obtain ⟨k, x, e1, e2⟩ := hacc.2 j v (by rw [← Array.getElem?_toList]; exact e)
    have e3 : (vs.map (·.1))[j]? = some k := by rw [List.getElem?_map, e1]; rfl
    rw [hkeys, List.getElem?_map] at e3
    cases e4 : ks[j]? with
    | none => rw [e4] at e3; cases e3
    | some y =>
      rw [e4] at e3
      cases (show Sum.inl y = k from Option.some.inj e3)
      rcases keyIs_shape (show keyIs (Sum.inl y) v = true from e2) with ⟨i, t, ek, ev⟩ | ⟨z, t, ek, ev⟩
      · cases ek
        exact ⟨y, t, rfl, ev⟩
      · cases ek
  have I1 : Inv X pins σ H { s with heap := h', toks := tk } := I.kept hk
  have hsz : acc.toList.length ≤ sizeLine := by rw [hal, ← hl]; exact h16
  refine wpAny_bind (wpAny_newList ?_ (by simpa using hsz))
  have hoL : (h'.push (seqObj "list" acc.toList.toArray 0)).get? h'.objs.size = some (seqObj "list" acc.toList.toArray 0) := Heap.get?_push_size _ rfl
  show wpAny _ _ _ _ _ { s with heap := h'.push (seqObj "list" acc.toList.toArray 0), toks := tk }
  refine wpAny_bind (wpAny_holding (wpAny_call_entry PyProof.Rows.slot_list_sort ⟨_, hoL, rfl⟩ PyProof.Rows.entry_list_sort
    (SrtO.list_sort_ord (s := { s with heap := h'.push (seqObj "list" acc.toList.toArray 0), toks := tk }) SrtO.swo_int hoL hsz (fun h2 => SrtO.ints_sortable hS h2) fun out g1 g2 => ⟨_, rfl, ?_⟩) (PyProof.Rows.args_list_sort _)))
  obtain ⟨k1, k2, k3⟩ := SrtO.ints_out hS g1 g2
  obtain ⟨e', he'⟩ := PyProof.Rows.sortedHeap_at (vs := acc.toList) (out := out.toArray) hoL
  have hlen : ((out.map SrtO.iv).map V.int).length ≤ sizeLine := by
    rw [List.length_map, k2.length_eq, ← hal]
    exact hsz
  refine wpAny_pure ⟨_, rfl, .ref h'.objs.size, upd H h'.objs.size (.lst ((out.map SrtO.iv).map V.int)), I1.laid (t' := tk) (fun b u e => ?_) (Nat.le_refl _) ⟨hlen, out, e', vals_of_ints k1, he'⟩, rfl, q _ _ k2 k3 (I1.hok.fresh (Nat.le_refl _))⟩
  have hb : b ≠ h'.objs.size := Nat.ne_of_lt (Heap.lt_size e)
  rw [PyProof.Rows.sortedHeap_old hb (Nat.lt_succ_of_lt (Heap.lt_size e) |> fun z => by simpa using z)]
  exact Heap.get?_push_of_some _ e
end
end Ew
end

section
set_option Elab.async false
set_option linter.all false
set_option maxRecDepth 100000
set_option maxHeartbeats 4000000
/-! EwK: keys, update, dict(..), == of dicts, walks over keys. -/
namespace Ew
open PySem PySem.Spec PyProof.Rows L2
variable [Tabs]
section
variable {K : PySem.W.Frag} {r w : List Addr} {H : Hp}
theorem keyV_vr (k : MK) : VR K r w H (keyV k) (kV k) := by
  cases k <;> simp only [keyV, VR] <;> rfl
theorem keys_vrs : ∀ {kvs : List (MK × MV)} {us : List (Key × V)}, VRk K r w H kvs us → VRs K r w H (kvs.map fun kv => keyV kv.1) (us.map fun kv => kV kv.1)
  | [], us, q => by simp only [VRk] at q; subst q; simp [VRs]
  | (k, v) :: kvs, us, q => by
    simp only [VRk] at q
    obtain ⟨u, t, rfl, q1, q2⟩ := q
    simp only [List.map_cons, VRs]
    exact ⟨_, _, rfl, keyV_vr k, keys_vrs q2⟩
theorem keys_ints : ∀ {kvs : List (MK × MV)} {us : List (Key × V)} {ns : List Int}, VRk K r w H kvs us → intsOf (kvs.map fun kv => keyV kv.1) = some ns → us.map (·.1) = ns.map Sum.inl
  | [], us, ns, q, e => by
    simp only [VRk] at q; subst q
    simp [intsOf] at e; subst e; rfl
  | (k, v) :: kvs, us, ns, q, e => by
    simp only [VRk] at q
    obtain ⟨u, t, rfl, q1, q2⟩ := q
    cases k with
    | inr x => simp [keyV, intsOf] at e
    | inl i =>
      have e' : (intsOf (kvs.map fun kv => keyV kv.1)).map (i :: ·) = some ns := e
      cases e2 : intsOf (kvs.map fun kv => keyV kv.1) with
      | none => rw [e2] at e'; cases e'
      | some ms =>
        rw [e2] at e'
        simp only [Option.map_some, Option.some.injEq] at e'
        subst e'
        simp only [List.map_cons, keys_ints q2 e2]
end
section
variable {K : PySem.W.Frag} {X : Cx} {e a b c o i : Expr} {m ma mb mc mo mi : XE} {pos p q : Pos} {es : List Expr} {mas : XA}
theorem xUn_at {f : MH → MV → Option MV} {s : SM} {h h' : MH} {v : MV} (e : xUn f ma s h = some (v, h')) : ∃ x, ma s h = some (x, h') ∧ f h' x = some v := by
  unfold xUn at e
  cases e1 : ma s h with
  | none => simp [e1] at e
  | some p1 =>
    obtain ⟨x, h1⟩ := p1
    simp only [e1] at e
    cases e2 : f h1 x with
    | none => simp [e2] at e
    | some v' =>
      simp only [e2, Option.some.injEq, Prod.mk.injEq] at e
      obtain ⟨rfl, rfl⟩ := e
      exact ⟨x, rfl, e2⟩
theorem rd_new {r w : List Addr} {H : Hp} {d v : Addr} {o o2 : HO} (rd : Rd H d o) (hv : H v = none) : Rd (upd H v o2) d o := by
  rcases rd with rd | ⟨od, rd⟩
  · exact .inl (by rw [upd_ne (ne_of_none rd hv)]; exact rd)
  · exact .inr ⟨od, by rw [upd_ne (ne_of_none rd hv)]; exact rd⟩
theorem mf_listKeys {apos : Pos} (hm : X.mg "list" = none) (ho : ME X o mo) (hc : X.calm = true := by rfl) (hg : Gl X "list" := by rfl) (hbase : attributeBase o "keys" X.env (eval o X.env) = eval o X.env := by rfl) (hline : (apos.endLine == pos.line) = true := by rfl)
    (he : starEach [.Call (.Attribute o "keys" apos) [] [] pos] X.env = [(false, eval (.Call (.Attribute o "keys" apos) [] [] pos) X.env)] := by rfl) :
    MF X (.Call (.Name "list" p) [.Call (.Attribute o "keys" apos) [] [] pos] [] q) (xUn fKeys mo) :=
  PE.wk (pe_callTy (call_listKeys hc) hg hm (by decide +kernel) (pa_cons (pe_keysV ho hbase hline) pa_nil he) (by decide +kernel) (by decide +kernel) he) fun z H Q ⟨r, w, s, h, v, h', R, S, e, C⟩ => by
  obtain ⟨x, e1, e2⟩ := xUn_at e
  refine ⟨r, w, s, h, x, h', R, S, e1, fun r1 u1 H1 F1 R1 V1 => ?_⟩
  unfold fKeys at e2
  cases e3 : dictK h' x with
  | none => rw [e3] at e2; cases e2
  | some kvs =>
    rw [e3] at e2
    simp only [Option.map_some, Option.some.injEq] at e2
    subst e2
    obtain ⟨d, us, rfl, rd, q⟩ := dictK_rd R1 V1 e3
    refine ⟨d, us, rfl, rd, fun v hv => ⟨v, d, us, rfl, upd_same, rd_new (r := []) (w := []) rd hv, fun p hp => ?_⟩⟩
    have R2 : Rel X.K r1 w h' (upd H1 v (KeysO d v)) := R1.new hv
    exact ((C.fwd F1 R1).fwd (Fwd.new r1 hv) R2).lst R2 hp (keys_vrs (VRk.map (Fwd.new r1 hv).stp _ _ q))
theorem mf_sortKeys {apos : Pos} (hm : X.mg "sorted" = none) (ho : ME X o mo) (hc : X.calm = true := by rfl) (hg : Gl X "sorted" := by rfl) (hbase : attributeBase o "keys" X.env (eval o X.env) = eval o X.env := by rfl) (hline : (apos.endLine == pos.line) = true := by rfl)
    (he : starEach [.Call (.Attribute o "keys" apos) [] [] pos] X.env = [(false, eval (.Call (.Attribute o "keys" apos) [] [] pos) X.env)] := by rfl) :
    MF X (.Call (.Name "sorted" p) [.Call (.Attribute o "keys" apos) [] [] pos] [] q) (xUn fKeysS mo) :=
  PE.wk (pe_callB (call_sortedKeys hc) hg hm (by decide +kernel) (pa_cons (pe_keysV ho hbase hline) pa_nil he) (by decide +kernel) (by decide +kernel) he) fun z H Q ⟨r, w, s, h, v, h', R, S, e, C⟩ => by
  obtain ⟨x, e1, e2⟩ := xUn_at e
  refine ⟨r, w, s, h, x, h', R, S, e1, fun r1 u1 H1 F1 R1 V1 => ?_⟩
  unfold fKeysS at e2
  split at e2
  · rename_i kvs e3
    cases e4 : intsOf (kvs.map fun kv => keyV kv.1) with
    | none => rw [e4] at e2; cases e2
    | some ns =>
      rw [e4] at e2
      simp only [Option.map_some, Option.some.injEq] at e2
      subst e2
      obtain ⟨d, us, rfl, rd, q⟩ := dictK_rd R1 V1 e3
      refine ⟨d, us, rfl, rd, fun v hv => ⟨v, d, us, ns, rfl, upd_same, rd_new (r := []) (w := []) rd hv, keys_ints q e4, fun ys p hy hs hp => ?_⟩⟩
      have ey : ys = sortI ns := PySem.W.os_sorted_mergeSort hy hs
      subst ey
      have R2 : Rel X.K r1 w h' (upd H1 v (KeysO d v)) := R1.new hv
      exact ((C.fwd F1 R1).fwd (Fwd.new r1 hv) R2).lst R2 hp (VRs.ints _)
  · cases e2
/-- sorted(t), ints -/
theorem call_sortedTup : CallR X (.builtin "sorted") (fun xs H Q => ∃ (a : Addr) (ks : List Int), xs = [.ref a] ∧ SqT X.K H a (ks.map V.int) ∧ ∀ (ys : List Int) (p : Addr), ys.Perm ks → ys.Pairwise (· ≤ ·) → H p = none → Q (.ref p) (upd H p (.lst (ys.map V.int)))) := by
  intro pins s σ H xs us Q I r q
  obtain ⟨a, ks, rfl, hs, q⟩ := q
  obtain ⟨u, rfl, rx⟩ := vals1 r
  cases rx
  obtain ⟨its, rv, ht, hz⟩ := I.tuple hs
  have hS := rv.ints
  have hsz : its.length ≤ sizeLine := by rw [← rv.length]; exact hz
  obtain ⟨o, g1, g2, n, g3⟩ := ht
  refine Calls.call_function_entry PyProof.Rows.kind_sorted PyProof.Rows.plain_sorted PyProof.Rows.entry_sorted (PyProof.Rows.args_sorted1 _) ?_
  unfold Builtin.«sorted»
  refine wpAny_bind (m := checkCount "sorted" 1 1 _) (wpAny_pure ?_)
  refine wpAny_bind (wpAny_collect_seq a (T := "tuple") (.inr rfl) g1 g2 g3 (fun h' hk => ?_) (by simpa using hsz))
  have I1 : Inv X pins σ H { s with heap := h' } := I.kept (t' := s.toks) hk
  refine wpAny_bind (wpAny_newList ?_ (by simpa using hsz))
  have hoL : (h'.push (seqObj "list" its.toArray 0)).get? h'.objs.size = some (seqObj "list" its.toArray 0) := Heap.get?_push_size _ rfl
  show wpAny _ _ _ _ _ { s with heap := h'.push (seqObj "list" its.toArray 0) }
  refine wpAny_bind (wpAny_holding (wpAny_call_entry PyProof.Rows.slot_list_sort ⟨_, hoL, rfl⟩ PyProof.Rows.entry_list_sort
    (SrtO.list_sort_ord (s := { s with heap := h'.push (seqObj "list" its.toArray 0) }) SrtO.swo_int hoL hsz (fun h2 => SrtO.ints_sortable hS h2) fun out g1 g2 => ⟨_, rfl, ?_⟩) (PyProof.Rows.args_list_sort _)))
  obtain ⟨k1, k2, k3⟩ := SrtO.ints_out hS g1 g2
  obtain ⟨e', he'⟩ := PyProof.Rows.sortedHeap_at (vs := its) (out := out.toArray) hoL
  have hlen : ((out.map SrtO.iv).map V.int).length ≤ sizeLine := by
    rw [List.length_map, k2.length_eq]
    simpa using hz
  refine wpAny_pure ⟨_, rfl, .ref h'.objs.size, upd H h'.objs.size (.lst ((out.map SrtO.iv).map V.int)), I1.laid (t' := s.toks) (fun b u e => ?_) (Nat.le_refl _) ⟨hlen, out, e', vals_of_ints k1, he'⟩, rfl, q _ _ k2 k3 (I1.hok.fresh (Nat.le_refl _))⟩
  have hb : b ≠ h'.objs.size := Nat.ne_of_lt (Heap.lt_size e)
  rw [PyProof.Rows.sortedHeap_old hb (Nat.lt_succ_of_lt (Heap.lt_size e) |> fun z => by simpa using z)]
  exact Heap.get?_push_of_some _ e
theorem CallR.or2 {f : Value} {t t' : List V → Hp → VK → Prop} (h : CallR X f t) (h' : CallR X f t') : CallR X f (fun xs H Q => t xs H Q ∨ t' xs H Q) := fun pins s σ H xs us Q I r q => q.elim (h pins s σ H xs us Q I r) (h' pins s σ H xs us Q I r)
theorem lexLe_no {p q : Int × Int} : lexLe p q = true ↔ SrtO.lexB q p = false := by
  rw [SrtO.lexB_no]
  unfold lexLe
  simp only [Bool.or_eq_true, Bool.and_eq_true, decide_eq_true_eq]
  omega
theorem lexLe_anti {p q : Int × Int} (h1 : lexLe p q = true) (h2 : lexLe q p = true) : p = q := by
  unfold lexLe at h1 h2
  simp only [Bool.or_eq_true, Bool.and_eq_true, decide_eq_true_eq] at h1 h2
  exact Prod.ext (by omega) (by omega)
theorem sortedP_eq : ∀ {a b : List (Int × Int)}, a.Perm b → a.Pairwise (fun x y => lexLe x y = true) → b.Pairwise (fun x y => lexLe x y = true) → a = b
  | [], b, h, _, _ => by rw [List.nil_perm.mp h]
  | x :: a, [], h, _, _ => by have := List.perm_nil.mp h; cases this
  | x :: a, y :: b, h, ha, hb => by
    obtain ⟨ha1, ha2⟩ := List.pairwise_cons.mp ha
    obtain ⟨hb1, hb2⟩ := List.pairwise_cons.mp hb
    have e : x = y := by
      have m1 : x ∈ y :: b := h.mem_iff.mp List.mem_cons_self
      have m2 : y ∈ x :: a := h.mem_iff.mpr List.mem_cons_self
      rcases List.mem_cons.mp m1 with q | q
      · exact q
      · rcases List.mem_cons.mp m2 with q2 | q2
        · exact q2.symm
        · exact lexLe_anti (ha1 y q2) (hb1 x q)
    subst e
    rw [sortedP_eq (List.Perm.cons_inv h) ha2 hb2]
theorem sortP_perm (ps : List (Int × Int)) : (sortP ps).Perm ps := List.mergeSort_perm _ _
theorem sortP_sorted (ps : List (Int × Int)) : (sortP ps).Pairwise fun x y => lexLe x y = true := by
  unfold sortP
  refine List.pairwise_mergeSort (fun a b c h1 h2 => ?_) (fun a b => ?_) ps
  · unfold lexLe at h1 h2 ⊢
    simp only [Bool.or_eq_true, Bool.and_eq_true, decide_eq_true_eq] at h1 h2 ⊢
    omega
  · unfold lexLe
    simp only [Bool.or_eq_true, Bool.and_eq_true, decide_eq_true_eq]
    omega
/-- the two ints of a pair -/
def pairAt (H : Hp) : V → Int × Int
  | .ref t => match H t with
    | some (.tup [.int a, .int b]) => (a, b)
    | _ => (0, 0)
  | _ => (0, 0)
theorem pairV_at {r w : List Addr} {H : Hp} {p : Int × Int} {u : V} (q : VR K r w H (pairV p) u) : pairAt H u = p ∧ ∃ t, u = .ref t ∧ H t = some (.tup [.int p.1, .int p.2]) := by
  simp only [pairV, VR, VRs] at q
  obtain ⟨a, us, rfl, ⟨_, ht⟩, u1, t1, rfl, rfl, u2, t2, rfl, rfl, rfl⟩ := q
  exact ⟨by simp only [pairAt, ht], a, rfl, ht⟩
theorem pairsI_vr {r w : List Addr} {H : Hp} : ∀ {xs : List MV} {us : List V} {ps : List (Int × Int)}, VRs K r w H xs us → pairsI xs = some ps → us.map (pairAt H) = ps ∧ ∀ u ∈ us, VR K r w H (pairV (pairAt H u)) u
  | [], us, ps, q, e => by
    simp only [VRs] at q; subst q
    simp only [pairsI, Option.some.injEq] at e; subst e
    exact ⟨rfl, fun u h => nomatch h⟩
  | x :: xs, us, ps, q, e => by
    simp only [VRs] at q
    obtain ⟨u, t, rfl, q1, q2⟩ := q
    unfold pairsI at e
    split at e
    · rename_i a b
      cases e1 : pairsI xs with
      | none => rw [e1] at e; cases e
      | some ps' =>
        rw [e1] at e
        simp only [Option.map_some, Option.some.injEq] at e
        subst e
        obtain ⟨a1, a2⟩ := pairsI_vr q2 e1
        have ea := (pairV_at (p := (a, b)) q1).1
        refine ⟨by rw [List.map_cons, ea, a1], fun v hv => ?_⟩
        rcases List.mem_cons.mp hv with rfl | hv
        · rw [ea]; exact q1
        · exact a2 v hv
    · cases e
theorem vrs_map {r w : List Addr} {H : Hp} {k : V → MV} : ∀ {us : List V}, (∀ u ∈ us, VR K r w H (k u) u) → VRs K r w H (us.map k) us
  | [], _ => by simp [VRs]
  | u :: us, h => by
    simp only [List.map_cons, VRs]
    exact ⟨u, us, rfl, h u List.mem_cons_self, vrs_map fun v hv => h v (List.mem_cons_of_mem _ hv)⟩
theorem mf_sorted (hm : X.mg "sorted" = none) (ha : MA X (e :: es) mas) (hg : Gl X "sorted" := by rfl) (he : starEach (e :: es) X.env = (false, eval e X.env) :: starEach es X.env := by rfl) (hpl : (backTo pos (starEach es X.env)).any (·.1) = false := by rfl) :
    MF X (.Call (.Name "sorted" p) (e :: es) [] pos) (xArgs fSorted mas) := PE.wk (pe_callB (CallR.or2 (CallR.or2 cr_sortedI call_sortedTup) cr_sortedPO) hg hm (by decide +kernel) ha.pa (by decide +kernel) (by decide +kernel) he hpl) fun z H Q ⟨r, w, s, h, v, h', R, S, e, C⟩ => by
  obtain ⟨xs, e1, e2⟩ := xArgs_at e
  refine ⟨r, w, s, h, xs, h', R, S, e1, fun r1 us H1 F1 R1 VA => ?_⟩
  unfold fSorted at e2
  split at e2
  · rename_i v'
    obtain ⟨u, rfl, q⟩ := vrs1 VA
    split at e2
    · rename_i ys e3
      cases e4 : intsOf ys with
      | none =>
        rw [e4] at e2
        simp only at e2
        split at e2
        · rename_i zs e5
          cases e6 : pairsI zs with
          | none => rw [e6] at e2; cases e2
          | some ps =>
            rw [e6] at e2
            simp only [Option.map_some, Option.some.injEq] at e2
            subst e2
            obtain ⟨p, ws, rfl, sq, q2⟩ := list_sq X.K R1 q e5
            obtain ⟨b1, b2⟩ := pairsI_vr q2 e6
            refine .inr ⟨p, ws, pairAt H1, rfl, sq, fun x hx => (pairV_at (b2 x hx)).2, fun ys l hs hb hl => (C.fwd F1 R1).lst R1 hl ?_⟩
            have hp : (ys.map (pairAt H1)).Perm ps := by rw [← b1]; exact hb.perm.map _
            have ho : (ys.map (pairAt H1)).Pairwise fun x y => lexLe x y = true := by
              refine List.pairwise_map.mpr (List.Pairwise.imp (fun {a b} h => ?_) (show ys.Pairwise _ from hs))
              exact lexLe_no.mpr h
            have ey := sortedP_eq (hp.trans (sortP_perm ps).symm) ho (sortP_sorted ps)
            rw [← ey, List.map_map]
            exact vrs_map fun u hu => b2 u (hb.perm.mem_iff.mp hu)
        · cases e2
      | some ns =>
        rw [e4] at e2
        simp only [Option.some.injEq] at e2
        subst e2
        obtain ⟨p, ws, rfl, sq, q2⟩ := seq_sq X.K R1 q e3
        have e5 := ints_of q2 e4
        subst e5
        have fin : ∀ (ys : List Int) (l : Addr), ys.Perm ns → ys.Pairwise (· ≤ ·) → H1 l = none → Q (.ref l) (upd H1 l (.lst (ys.map V.int))) := fun ys l hy hs hl => by
          have ey : ys = sortI ns := PySem.W.os_sorted_mergeSort hy hs
          subst ey
          exact (C.fwd F1 R1).lst R1 hl (VRs.ints _)
        rcases sq with sq | sq
        · exact .inl (.inl ⟨p, ns, rfl, sq, fin⟩)
        · exact .inl (.inr ⟨p, ns, rfl, sq, fin⟩)
    · cases e2
  · cases e2
/-! ### dict(pairs), d.update(e) -/
theorem dictP_of {r w : List Addr} {H : Hp} : ∀ {xs : List MV} {us : List V} {kvs : List (MK × MV)}, VRs K r w H xs us → pairsK xs = some kvs → ∃ (ps : List Addr) (ws : List (Key × V)), us = ps.map V.ref ∧ Paired (fun p kv => SqT K H p [kV kv.1, kv.2]) ps ws ∧ VRk K r w H kvs ws
  | [], us, kvs, q, e => by
    simp only [VRs] at q; subst q
    simp only [pairsK, Option.some.injEq] at e; subst e
    exact ⟨[], [], rfl, .nil, by simp [VRk]⟩
  | x :: xs, us, kvs, q, e => by
    simp only [VRs] at q
    obtain ⟨u, t, rfl, q1, q2⟩ := q
    unfold pairsK at e
    split at e
    · rename_i k v
      cases e1 : keyOf k with
      | none => simp [e1] at e
      | some kk =>
        cases e2 : pairsK xs with
        | none => simp [e1, e2] at e
        | some more =>
          simp only [e1, e2, Option.some.injEq] at e
          subst e
          obtain ⟨ps, ws, rfl, h1, h2⟩ := dictP_of q2 e2
          simp only [VR] at q1
          obtain ⟨a, us, rfl, t1, q3⟩ := q1
          obtain ⟨u1, u2, rfl, q4, q5⟩ := vrs2 q3
          have := key_kV q4 e1
          subst this
          exact ⟨a :: ps, (kk, u2) :: ws, rfl, .cons t1.sq h1, by simp only [VRk]; exact ⟨u2, ws, rfl, q5, h2⟩⟩
    · cases e
theorem mf_dictP (hm : X.mg "dict" = none) (ha : MA X (e :: es) mas) (hc : X.calm = true := by rfl) (hg : Gl X "dict" := by rfl) (he : starEach (e :: es) X.env = (false, eval e X.env) :: starEach es X.env := by rfl) (hpl : (backTo pos (starEach es X.env)).any (·.1) = false := by rfl) :
    MF X (.Call (.Name "dict" p) (e :: es) [] pos) (xArgs fDictP mas) := mf_t (call_dictP hc) (fun r w h H xs v us Q R V e C => by
  unfold fDictP at e
  split at e
  · rename_i v'
    obtain ⟨u, rfl, q⟩ := vrs1 V
    split at e
    · rename_i ys e1
      cases e2 : pairsK ys with
      | none => rw [e2] at e; cases e
      | some kvs =>
        rw [e2] at e
        simp only [Option.map_some, Option.some.injEq] at e
        subst e
        obtain ⟨p, ws, rfl, sq, q2⟩ := list_sq X.K R q e1
        obtain ⟨ps, wk, rfl, h1, h2⟩ := dictP_of q2 e2
        refine ⟨p, ps, wk, rfl, sq, h1, fun d hd => ?_⟩
        refine C r d _ (Fwd.new r hd) hd (R.hold hd) ?_
        simp only [VF]
        exact ⟨_, upd_same, VRk.map (Stp.hold R hd) _ _ (merge_vr (by simp [VRk]) h2)⟩
    · cases e
  · cases e) (by decide +kernel) hm ha hg (by decide +kernel) (by decide +kernel) he hpl
theorem mt_update : MtR X "dict.update" (fun x xs H Q => ∃ (d b : Addr) (kvs more : List (Key × V)), x = .ref d ∧ xs = [.ref b] ∧ d ≠ b ∧ H d = some (.dK kvs) ∧ Rd H b (.dK more) ∧ kvs.length + more.length ≤ sizeLine ∧ Q .non (upd H d (.dK (mergeK kvs more)))) := by
  intro pins s σ H x xs v us Q I rx rxs h
  obtain ⟨d, b, kvs, more, rfl, rfl, hne, hd, hb, hz, q⟩ := h
  cases rx
  obtain ⟨u, rfl, ru⟩ := vals1 rxs
  cases ru
  obtain ⟨z, lo, vs, rel, dd⟩ := dk_of I.hok hd
  obtain ⟨z2, lo2, ws, rel2, dd2⟩ := dk_rd I.hok hb
  refine call_meetsIn F.slot_dict_update dd.typeIs F.entry_dict_update (F.args_dict_update_2 _ _) (meets_dict_update (mixKind X.prog X.w) d b hne lo2) ⟨vs, ws, dd, dd2, by rw [← rel.length, ← rel2.length]; exact hz, fun h' hd' ho' hs => ?_⟩
  have hl := length_mergeK more kvs
  have he : ∃ q, h'.get? d = some q := let ⟨q, _, _, hq, _⟩ := hd'; ⟨q, hq⟩
  exact ⟨.non, _, d_write I (by rw [hd]; exact True.intro) hs he (dk_new (by omega) lo (rel2.merge rel) hd'), rfl, q⟩
theorem me_update {apos : Pos} (ho : ME X o mo) (he : ME X e m) (hbase : attributeBase o "update" X.env (eval o X.env) = eval o X.env := by rfl)
    (hfew : ((backTo pos (starEach [e] X.env)).all (fun x => !x.1) && (backToKw pos (keywordEach [] X.env)).all (fun x => x.1.isSome) && decide ([e].length + ([] : List Keyword).length + (if ([] : List Keyword).isEmpty then 0 else 1) < 30)) = true := by rfl)
    (hline : (apos.endLine == pos.line) = true := by rfl) (hs : starEach (e :: []) X.env = (false, eval e X.env) :: starEach [] X.env := by rfl) (hpl : (backTo pos (starEach [] X.env)).any (·.1) = false := by rfl) :
    ME X (.Call (.Attribute o "update" apos) [e] [] pos) (xUpdate mo m) := PE.wk (pe_bm F.plainAttrs_dict F.slot_dict_update F.type_dict_update mt_update ho (pa_cons he pa_nil hs) hbase hfew hline hs hpl) fun z H Q ⟨r, w, s, h, v, h', R, S, e, C⟩ => by
  unfold xUpdate at e
  split at e
  · rename_i n h1 e1
    split at e
    · rename_i kv0 e0
      split at e
      · rename_i more h2 e2
        split at e
        · rename_i kvs e3
          split at e
          · rename_i hl
            simp only [Option.some.injEq, Prod.mk.injEq] at e
            obtain ⟨rfl, rfl⟩ := e
            refine ⟨r, w, s, h, _, h1, R, S, e1, fun r1 u1 H1 F1 R1 V1 => ?_⟩
            have V1' := V1
            simp only [VR] at V1'
            obtain ⟨a, rfl, hn⟩ := V1'
            have hc0 := R1.at_ n a _ hn e0
            simp only [CRel] at hc0
            obtain ⟨us0, hd0, _⟩ := hc0
            refine ⟨.inr (.inr (.inl ⟨rfl, .inl ⟨_, hd0⟩⟩)), r1, w, s, h1, _, h2, R1, S.fwd F1, e2, fun r2 u2 H2 F2 R2 V2 => ?_⟩
            have hn2 := F2.at_ hn
            have hc := R2.at_ n a _ hn2 e3
            simp only [CRel] at hc
            obtain ⟨us, hd, q⟩ := hc
            simp only [VR] at V2
            obtain ⟨b, ws, rfl, nb, rb, q2⟩ := V2
            have hm : a ∈ r2 := List.mem_of_getElem? hn2
            refine ⟨a, b, us, ws, rfl, rfl, fun z => nb.1 (by rw [← z]; exact hm), hd, rb, by rw [← VRk.length q, ← VRk.length q2, ← szl]; exact hl, ?_⟩
            refine ((C.fwd F1 R1).fwd F2 R2) r2 _ _ (Fwd.put hn2 _ (fun _ _ z => by rw [hd] at z; cases z)) (R2.put hn2 (c := .dK _) ?_) (by simp only [VR])
            simp only [CRel]
            exact ⟨_, upd_same, VRk.map (Stp.put hn2 _) _ _ (merge_vr q q2)⟩
          · cases e
        · cases e
      · cases e
    · cases e
  · cases e
/-! ### == of dicts -/
/-- the items looked up -/
inductive HitsV (K : PySem.W.Frag) (H : Hp) (ls : List (Key × V)) : List (Key × V) → Bool → Prop
  | nil : HitsV K H ls [] true
  | miss {k : Key} {v : V} {r : List (Key × V)} : valV ls k = none → HitsV K H ls ((k, v) :: r) false
  | hit {k : Key} {v y : V} {d f : PyData} {r : List (Key × V)} {b : Bool} : valV ls k = some y → Dp K H v d → Dp K H y f → SeqAt.shaped d = true → SeqAt.shaped f = true → HitsV K H ls r b → HitsV K H ls ((k, v) :: r) (PyData.eqv d f && b)
theorem hitsV_run {pins : List (Addr × Obj)} {σ : L2.St} {H : Hp} {s : Shared} (I : Inv X pins σ H s) (hu : X.A.in1.units + 64 < cLine) {ls : List (Key × V)} {vb : List (Key × Value)} (rb : KV ls vb) {ks : List (Key × V)} {t : Bool} (h : HitsV X.K H ls ks t) :
    ∀ {va : List (Key × Value)}, KV ks va → PySem.W.KeqHits X.A.in1 s vb va t := by
  induction h with
  | nil => intro va ra; cases ra; exact .nil
  | @miss k v rest e =>
    intro va ra
    cases ra with
    | @cons _ q _ qs h1 h2 =>
      obtain ⟨k', v'⟩ := q
      obtain ⟨h3, h4⟩ := h1
      have h3' : k = k' := h3
      subst h3'
      have rr : RelO none (valueAt vb k) := by rw [← e]; exact rb.val k
      exact .miss (by cases z : valueAt vb k with
        | none => rfl
        | some y => rw [z] at rr; exact rr.elim)
  | @hit k v y d f rest t e d1 d2 s1 s2 hr ih =>
    intro va ra
    cases ra with
    | @cons _ q _ qs h1 h2 =>
      obtain ⟨k', v'⟩ := q
      obtain ⟨h3, h4⟩ := h1
      have h3' : k = k' := h3
      subst h3'
      have rr : RelO (some y) (valueAt vb k) := by rw [← e]; exact rb.val k
      obtain ⟨y', hy, ry⟩ := rr.some_of
      obtain ⟨as, r1⟩ := Dp.reads I d v v' d1 h4
      obtain ⟨bs, r2⟩ := Dp.reads I f y y' d2 ry
      exact .hit hy (PySem.W.keq_at r1 r2 s1 s2 hu) (ih h2)
theorem op_eqDK (hu : X.A.in1.units + 64 < cLine) : OpR X (compareOp .Eq) (fun x y H Q => ∃ a b ks ls t, x = .ref a ∧ y = .ref b ∧ Rd H a (.dK ks) ∧ Rd H b (.dK ls) ∧ HitsV X.K H ls ks t ∧ Q (.bl (ks.length == ls.length && t)) H) := by
  intro pins s σ H x y v u Q I rx ry h
  obtain ⟨a, b, ks, ls, t, rfl, rfl, ha, hb, ht, q⟩ := h
  cases rx
  cases ry
  obtain ⟨_, ya, va, ra, da⟩ := dk_rd I.hok ha
  obtain ⟨_, yb, vb, rb, db⟩ := dk_rd I.hok hb
  have hu1 : X.A.units < cLine := by have : X.A.in1.units = X.A.units + 1 := rfl; omega
  refine PySem.W.keq_eq (knd := mixKind X.prog X.w) (r := t) ya yb da db hu1 (fun _ => hitsV_run I hu rb ht ra) ⟨.bl _, H, I, ?_, q⟩
  show Value.bool _ = Value.bool _
  rw [ra.length, rb.length]
theorem op_neDK (hu : X.A.in1.units + 64 < cLine) : OpR X (compareOp .NotEq) (fun x y H Q => ∃ a b ks ls t, x = .ref a ∧ y = .ref b ∧ Rd H a (.dK ks) ∧ Rd H b (.dK ls) ∧ HitsV X.K H ls ks t ∧ Q (.bl (!(ks.length == ls.length && t))) H) := by
  intro pins s σ H x y v u Q I rx ry h
  obtain ⟨a, b, ks, ls, t, rfl, rfl, ha, hb, ht, q⟩ := h
  cases rx
  cases ry
  obtain ⟨_, ya, va, ra, da⟩ := dk_rd I.hok ha
  obtain ⟨_, yb, vb, rb, db⟩ := dk_rd I.hok hb
  have hu1 : X.A.units < cLine := by have : X.A.in1.units = X.A.units + 1 := rfl; omega
  refine PySem.W.keq_ne (knd := mixKind X.prog X.w) (r := t) ya yb da db hu1 (fun _ => hitsV_run I hu rb ht ra) ⟨.bl _, H, I, ?_, q⟩
  show Value.bool _ = Value.bool _
  rw [ra.length, rb.length]
theorem isD_mono : ∀ (n k : Nat) (v : MV), n ≤ k → isD n v = true → isD k v = true := by
  have key : ∀ n k, n ≤ k → (∀ v, isD n v = true → isD k v = true) ∧ ∀ vs, isDs n vs = true → isDs k vs = true := by
    intro n
    induction n with
    | zero =>
      intro k hk
      have h1 : ∀ v, isD 0 v = true → isD k v = true := fun v h => by cases v <;> cases k <;> simp_all [isD]
      refine ⟨h1, fun vs => ?_⟩
      induction vs with
      | nil => intro _; simp [isDs]
      | cons v vs ih => intro h; simp only [isDs, Bool.and_eq_true] at h ⊢; exact ⟨h1 v h.1, ih h.2⟩
    | succ n ih =>
      intro k hk
      obtain ⟨k, rfl⟩ : ∃ j, k = j + 1 := ⟨k - 1, by omega⟩
      have h1 : ∀ v, isD (n + 1) v = true → isD (k + 1) v = true := fun v h => by
        cases v <;> simp only [isD] at h ⊢ <;> first | exact h | exact (ih k (by omega)).2 _ h
      refine ⟨h1, fun vs => ?_⟩
      induction vs with
      | nil => intro _; simp [isDs]
      | cons v vs ih => intro h; simp only [isDs, Bool.and_eq_true] at h ⊢; exact ⟨h1 v h.1, ih h.2⟩
  exact fun n k v hk => (key n k hk).1 v
theorem hits_of {r w : List Addr} {H : Hp} {ys : List (MK × MV)} {ls : List (Key × V)} (q2 : VRk K r w H ys ls) (d2 : dataKs ys = true) : ∀ {xs : List (MK × MV)} {ks : List (Key × V)}, VRk K r w H xs ks → dataKs xs = true →
    HitsV K H ls ks (xs.all fun kv => match getK ys kv.1 with | some y => eqD kv.2 y | none => false)
  | [], ks, q, _ => by simp only [VRk] at q; subst q; exact .nil
  | (k, v) :: xs, ks, q, d => by
    simp only [VRk] at q
    obtain ⟨u, t, rfl, q3, q4⟩ := q
    unfold dataKs at d
    rw [List.all_cons, Bool.and_eq_true] at d
    rw [List.all_cons]
    have ih := hits_of q2 d2 q4 (by unfold dataKs; exact d.2)
    rcases VRk.get k q2 with ⟨g1, g2⟩ | ⟨x, u2, g1, g2, g3⟩
    · simp only [g1, Bool.false_and]
      exact .miss g2
    · simp only [g1]
      have dx : isD 60 v = true := isD_mono 50 60 v (by omega) d.1
      have dy : isD 60 x = true := by
        have : ∃ kv ∈ ys, kv.2 = x := by
          unfold getK at g1
          cases e : ys.find? fun kv => decide (kv.1 = k) with
          | none => rw [e] at g1; cases g1
          | some kv =>
            rw [e] at g1
            exact ⟨kv, List.mem_of_find?_eq_some e, by simpa using g1⟩
        obtain ⟨kv, hm, rfl⟩ := this
        exact isD_mono 50 60 _ (by omega) (List.all_eq_true.mp d2 kv hm)
      rw [← toP_eqv v x 60 dx dy]
      exact .hit g2 (toP_dp K v u 60 dx q3) (toP_dp K x u2 60 dy g3) (shaped_of dx) (shaped_of dy) ih
theorem OpR.or2 {f : Value → Value → Sem Value} {t t' : R2} (h : OpR X f t) (h' : OpR X f t') : OpR X f (fun x y H Q => t x y H Q ∨ t' x y H Q) := fun pins s σ H x y v u Q I rx ry q => q.elim (h pins s σ H x y v u Q I rx ry) (h' pins s σ H x y v u Q I rx ry)
theorem Room.u1 {k : Nat} (hr : Room k X.A) : X.A.in1.units + 64 < cLine := by
  have h := hr.un
  have : X.A.in1.units = X.A.units + 1 := rfl
  omega
theorem c_eqA {k : Nat} (hr : Room k X.A) (ha : ME X a ma) (hb : ME X b mb) : ME X (.Compare a [.Eq] [b] pos) (xOp opEq ma mb) ∧ MT X (.Compare a [.Eq] [b] pos) (xB (xOp opEq ma mb)) := c_cmp (OpR.or2 (op_eqDK (Room.u1 hr)) (op_eqD hr.units)) (fun r w h H x y v u1 u2 Q R V1 V2 e C => by
  unfold opEq at e
  split at e
  · rename_i xs ys e1 e2
    split at e
    · rename_i d
      rw [Bool.and_eq_true] at d
      simp only [Option.some.injEq] at e
      subst e
      obtain ⟨a, ks, rfl, rd, q⟩ := dictK_rd R V1 e1
      obtain ⟨b, ls, rfl, rd2, q2⟩ := dictK_rd R V2 e2
      refine .inl ⟨a, b, ks, ls, _, rfl, rfl, rd, rd2, hits_of q2 d.2 q d.1, C.now R ?_⟩
      simp only [VR, eqKs]
      rw [VRk.length q, VRk.length q2]
      try rfl
    · cases e
  · unfold opEq0 eqM at e
    split at e
    · rename_i d
      rw [Bool.and_eq_true] at d
      simp only [Option.map_some, Option.some.injEq] at e
      subst e
      refine .inr ⟨_, _, rd_dp X.K R V1 d.1, rd_dp X.K R V2 d.2, shaped_of d.1, shaped_of d.2, C.now R ?_⟩
      simp only [VR]
      rw [toP_eqv _ _ 60 d.1 d.2]
    · cases e) ha hb (nomark _)
theorem c_neA {k : Nat} (hr : Room k X.A) (ha : ME X a ma) (hb : ME X b mb) : ME X (.Compare a [.NotEq] [b] pos) (xOp opNe ma mb) ∧ MT X (.Compare a [.NotEq] [b] pos) (xB (xOp opNe ma mb)) := c_cmp (OpR.or2 (op_neDK (Room.u1 hr)) (op_neD hr.units)) (fun r w h H x y v u1 u2 Q R V1 V2 e C => by
  unfold opNe at e
  split at e
  · rename_i xs ys e1 e2
    split at e
    · rename_i d
      rw [Bool.and_eq_true] at d
      simp only [Option.some.injEq] at e
      subst e
      obtain ⟨a, ks, rfl, rd, q⟩ := dictK_rd R V1 e1
      obtain ⟨b, ls, rfl, rd2, q2⟩ := dictK_rd R V2 e2
      refine .inl ⟨a, b, ks, ls, _, rfl, rfl, rd, rd2, hits_of q2 d.2 q d.1, C.now R ?_⟩
      simp only [VR, eqKs]
      rw [VRk.length q, VRk.length q2]
      try rfl
    · cases e
  · unfold opNe0 eqM at e
    split at e
    · rename_i d
      rw [Bool.and_eq_true] at d
      simp only [Option.map_some, Option.some.injEq] at e
      subst e
      refine .inr ⟨_, _, rd_dp X.K R V1 d.1, rd_dp X.K R V2 d.2, shaped_of d.1, shaped_of d.2, C.now R ?_⟩
      simp only [VR]
      rw [toP_eqv _ _ 60 d.1 d.2]
    · cases e) ha hb (nomark _)
/-! ### unpacking a list -/
theorem mg_unl {gs : XGs} {k n : Nat} (h : MGs X es gs) (hn : (assignEach es X.env).length = n := by rfl) (hst : (assignEach es X.env).findIdx? (·.1) = none := by rfl) (hc : X.calm = true := by rfl) : MG X (.Tuple es k pos) (gLp n gs) := PG.wk (pg_unl hc h hn hst) fun u z H Q ⟨r, w, s, h, v, s', h', R, S, V, e, C⟩ => by
  unfold gLp at e
  split at e
  · rename_i xs e1
    split at e
    · rename_i hl
      obtain ⟨p, us, rfl, sq, q⟩ := list_sq X.K R V e1
      exact ⟨p, us, rfl, sq, by rw [← VRs.length q]; exact hl, r, w, s, h, xs, s', h', R, S, q, e, C⟩
    · cases e
  · cases e
/-! ### for k in d.keys() -/
theorem Stp.lockK {r w : List Addr} {H : Hp} {d : Addr} {od : Obj} {us : List (Key × V)} (e : H d = some (.dK us)) : Stp r w H r w (upd H d (.frz od (.dK us))) := ⟨fun _ _ h => h, fun a o n ea => ⟨n, by
  by_cases q : a = d
  · subst q
    rw [e] at ea; cases ea
    exact .inr (.inl ⟨od, us, rfl, upd_same⟩)
  · exact .inl (by rw [upd_ne q]; exact ea)⟩⟩
theorem Stp.unlockK {r w : List Addr} {H : Hp} {d : Addr} {od : Obj} {us : List (Key × V)} (e : H d = some (.frz od (.dK us))) : Stp r w H r w (upd H d (.dK us)) := ⟨fun _ _ h => h, fun a o n ea => ⟨n, by
  by_cases q : a = d
  · subst q
    rw [e] at ea; cases ea
    exact .inr (.inr (.inl ⟨od, us, rfl, upd_same⟩))
  · exact .inl (by rw [upd_ne q]; exact ea)⟩⟩
theorem Rel.stp {r w : List Addr} {h : MH} {H : Hp} {d : Addr} {o : HO} (R : Rel K r w h H) (F : Stp r w H r w (upd H d o)) (hd : d ∉ r) (nt : ∀ us, o ≠ HO.tup us := by intro _ z; cases z) : Rel K r w h (upd H d o) :=
  ⟨R.len, R.nd, fun n a c hn hc => (R.at_ n a c hn hc).map F (upd_ne fun z => hd (by rw [← z]; exact List.mem_of_getElem? hn)), fun p hp => by
    obtain ⟨n, u, e, nu⟩ := R.wh p hp
    refine ⟨n, ?_⟩
    by_cases q : p = d
    · exact ⟨o, by rw [q, upd_same], nt⟩
    · exact ⟨u, by rw [upd_ne q]; exact e, nu⟩⟩
theorem walks_keys (K : PySem.W.Frag) {r w : List Addr} {H : Hp} {d : Addr} {od : Obj} {kvs : List (MK × MV)} {us : List (Key × V)} (e : H d = some (.frz od (.dK us))) (q : VRk K r w H kvs us) : Walks K (Itk d od us) (kvs.map fun kv => keyV kv.1) r w H := by
  have hk : us.map (·.1) = kvs.map (·.1) := VRk.keys q
  have hl : us.length = kvs.length := by simpa using congrArg List.length hk
  refine ⟨fun i r1 w1 H1 h1 F _ R1 hi => ⟨⟨F.frz _ _ _ e, by rw [hl]; simpa using hi⟩, fun x H2 ⟨eH, k, v, e1, e2⟩ => ?_⟩, fun i r1 w1 H1 h1 F _ R1 hi => ⟨F.frz _ _ _ e, by rw [hl]; exact Nat.le_of_eq (by simpa using hi)⟩⟩
  subst eH e2
  refine ⟨Fwd.refl _ _, R1, keyV k, ?_, keyV_vr k⟩
  have e3 : (us.map (·.1))[i]? = some k := by rw [List.getElem?_map, e1]; rfl
  rw [hk, List.getElem?_map] at e3
  cases e4 : kvs[i]? with
  | none => rw [e4] at e3; cases e3
  | some kv =>
    rw [e4] at e3
    rw [List.getElem?_map, e4]
    have e5 : kv.1 = k := Option.some.inj e3
    rw [← e5]
    rfl
theorem Fwd.relock {r r1 : List Addr} {H H1 : Hp} {d : Addr} {od : Obj} {us : List (Key × V)} (e : H d = some (.dK us)) (F : Fwd r (upd H d (.frz od (.dK us))) r1 H1) : H1 d = some (.frz od (.dK us)) ∧ Fwd r H r1 (upd H1 d (.dK us)) := by
  have h1 : H1 d = some (.frz od (.dK us)) := F.frz _ _ _ upd_same
  refine ⟨h1, ?_, fun a o n ea => ?_, fun a o u ea => ?_⟩
  · obtain ⟨ps, rfl, hp⟩ := F.ext
    refine ⟨ps, rfl, fun p hm => ?_⟩
    have := hp p hm
    by_cases ne : p = d
    · subst ne; rw [upd_same] at this; cases this
    · rwa [upd_ne ne] at this
  · by_cases ne : a = d
    · subst ne
      rw [upd_same, ← e, ea]
    · rw [upd_ne ne]
      exact F.keep a o n (by rw [upd_ne ne]; exact ea)
  · have ne : a ≠ d := fun z => by rw [z, e] at ea; cases ea
    rw [upd_ne ne]
    exact F.frz a o u (by rw [upd_ne ne]; exact ea)
/-- a cell's dict is locked, unlocked -/
theorem Rel.lock {r w : List Addr} {h : MH} {H : Hp} {n : Nat} {d : Addr} {od : Obj} {us : List (Key × V)} {kvs : List (MK × MV)} (R : Rel K r w h H) (hn : r[n]? = some d) (e : H d = some (.dK us)) (q : VRk K r w H kvs us) : Rel K r w (h.set n (.lkK kvs)) (upd H d (.frz od (.dK us))) := by
  have St : Stp r w H r w (upd H d (.frz od (.dK us))) := Stp.lockK e
  have hd : d ∈ r := List.mem_of_getElem? hn
  refine ⟨by rw [List.length_set]; exact R.len, R.nd, fun m a c hm hc => ?_, fun p hp => ?_⟩
  · by_cases z : m = n
    · subst z
      rw [hm] at hn; cases hn
      have hl := (List.getElem?_eq_some_iff.mp hc).1
      rw [List.length_set] at hl
      rw [List.getElem?_set_self hl] at hc
      cases hc
      exact ⟨od, us, upd_same, VRk.map St _ _ q⟩
    · rw [List.getElem?_set_ne (Ne.symm z)] at hc
      refine (R.at_ m a c hm hc).map St (upd_ne fun ea => z ?_)
      subst ea
      exact (List.getElem?_inj (List.getElem?_eq_some_iff.mp hm).1 R.nd).mp (hm.trans hn.symm)
  · obtain ⟨np, o, ep, nu⟩ := R.wh p hp
    exact ⟨np, o, by rw [upd_ne (fun z => np (by rw [z]; exact hd))]; exact ep, nu⟩
theorem Rel.unlock {r w : List Addr} {h : MH} {H : Hp} {n : Nat} {d : Addr} {od : Obj} {us : List (Key × V)} {kvs : List (MK × MV)} (R : Rel K r w h H) (hn : r[n]? = some d) (e : H d = some (.frz od (.dK us))) (hc : h[n]? = some (.lkK kvs)) : Rel K r w (h.set n (.dK kvs)) (upd H d (.dK us)) := by
  have St : Stp r w H r w (upd H d (.dK us)) := Stp.unlockK e
  have hd : d ∈ r := List.mem_of_getElem? hn
  have c0 := R.at_ n d _ hn hc
  simp only [CRel] at c0
  obtain ⟨o, us', e2, q⟩ := c0
  rw [e] at e2
  cases e2
  refine ⟨by rw [List.length_set]; exact R.len, R.nd, fun m a c hm hc => ?_, fun p hp => ?_⟩
  · by_cases z : m = n
    · subst z
      rw [hm] at hn; cases hn
      have hl := (List.getElem?_eq_some_iff.mp hc).1
      rw [List.length_set] at hl
      rw [List.getElem?_set_self hl] at hc
      cases hc
      exact ⟨us, upd_same, VRk.map St _ _ q⟩
    · rw [List.getElem?_set_ne (Ne.symm z)] at hc
      refine (R.at_ m a c hm hc).map St (upd_ne fun ea => z ?_)
      subst ea
      exact (List.getElem?_inj (List.getElem?_eq_some_iff.mp hm).1 R.nd).mp (hm.trans hn.symm)
  · obtain ⟨np, o, ep, nu⟩ := R.wh p hp
    exact ⟨np, o, by rw [upd_ne (fun z => np (by rw [z]; exact hd))]; exact ep, nu⟩
variable {sts : List Stmt} {x : XS} {g : XG} {tg : Expr}
theorem ms_forK {n : Nat} {t : Str} {p1 apos cpos : Pos} (hN : X.N[n]? = some t := by rfl) (hg : MG X tg g) (hb : MSs X sts x) (hv : Vis X.env.scope t := by first | exact Or.inl rfl | exact Or.inr (Or.inl rfl) | exact Or.inr (Or.inr rfl)) (hd : (t == ("__debug__" : Str)) = false := by decide +kernel)
    (hcd : (t == ("__classdict__" : Str)) = false := by decide +kernel) (hs : ∀ x, foldedSetIterable (.Call (.Attribute (.Name t p1) "keys" apos) [] [] cpos) X.env x = pure x := by intro _; rfl) (hp : PassesOwn (model X.prog X.w) X.A X.env X.xe := by exact PassesOwn.never) (hc : X.calm = true := by rfl)
    (hbase : attributeBase (.Name t p1) "keys" X.env (eval (.Name t p1) X.env) = eval (.Name t p1) X.env := by rfl) (hline : (apos.endLine == cpos.line) = true := by rfl) :
    MS X (.For tg (.Call (.Attribute (.Name t p1) "keys" apos) [] [] cpos) sts [] pos) (sForK n g x) := by
  have base := ps_for (pos := pos) hp hc (pi_keysM (apos := apos) (cpos := cpos) (pe_var (pos := p1) hN hv hd hcd) hbase hline) hg hb
  refine PS.wk (PS.or2 base (ps_lock base)) fun D z H ⟨r, w, s, h, f, s', h', R, S, e, C⟩ => ?_
  unfold sForK at e
  split at e
  · rename_i kvs e1
    obtain ⟨u, g1, g2⟩ := S.2 n _ e1
    have g2' := g2
    simp only [VR] at g2'
    obtain ⟨d, us, rfl, nd, rd, q⟩ := g2'
    rcases rd with rd | ⟨od, rd⟩
    · refine .inr ⟨d, .dK us, rd, True.intro, fun od => ?_⟩
      have St : Stp r w H r w (upd H d (.frz od (.dK us))) := Stp.lockK rd
      have R1 := R.stp St nd.1
      refine ⟨.ref d, g1, d, od, us, rfl, upd_same, ?_⟩
      refine for_vals (tb := tS X.K x) (walks_keys X.K upd_same (VRk.map St _ _ q)) R1 (S.map St) e ?_
      have back : ∀ {r1 : List Addr} {H1 : Hp} {h1 : MH}, Fwd r (upd H d (.frz od (.dK us))) r1 H1 → Rel X.K r1 w h1 H1 → H1 d = some (.frz od (.dK us)) ∧ Fwd r H r1 (upd H1 d (.dK us)) ∧ Stp r1 w H1 r1 w (upd H1 d (.dK us)) ∧ Rel X.K r1 w h1 (upd H1 d (.dK us)) := fun {r1 H1 h1} F R1 => by
        obtain ⟨a1, a2⟩ := Fwd.relock rd F
        have St2 := Stp.unlockK (r := r1) (w := w) a1
        exact ⟨a1, a2, St2, R1.stp St2 (F.nin nd.1 upd_same)⟩
      cases f <;> simp only [EndS] at C ⊢
      · exact fun r1 z1 H1 F R1 S1 => by obtain ⟨a1, a2, a3, a4⟩ := back F R1; exact ⟨a1, C r1 z1 _ a2 a4 (S1.map a3)⟩
      · exact fun r1 u1 H1 F R1 V1 => by obtain ⟨a1, a2, a3, a4⟩ := back F R1; exact ⟨a1, C r1 u1 _ a2 a4 (VR.map a3 _ _ V1)⟩
      · exact fun r1 z1 H1 F R1 S1 => by obtain ⟨a1, a2, a3, a4⟩ := back F R1; exact ⟨a1, C r1 z1 _ a2 a4 (S1.map a3)⟩
      · exact fun r1 z1 H1 F R1 S1 => by obtain ⟨a1, a2, a3, a4⟩ := back F R1; exact ⟨a1, C r1 z1 _ a2 a4 (S1.map a3)⟩
    · exact .inl ⟨.ref d, g1, d, od, us, rfl, rd, for_vals (tb := tS X.K x) (walks_keys X.K rd q) R S e C⟩
  · rename_i m e1
    split at e
    · rename_i kvs e2
      cases e3 : forGo g x (kvs.map fun kv => keyV kv.1) s (h.set m (.lkK kvs)) with
      | none => rw [e3] at e; cases e
      | some t3 =>
        obtain ⟨f1, s1, h1⟩ := t3
        rw [e3] at e
        simp only at e
        split at e
        · rename_i kvs' e4
          simp only [Option.some.injEq, Prod.mk.injEq] at e
          obtain ⟨rfl, rfl, rfl⟩ := e
          obtain ⟨u, g1, g2⟩ := S.2 n _ e1
          simp only [VR] at g2
          obtain ⟨d, rfl, hm⟩ := g2
          have c0 := R.at_ m d _ hm e2
          simp only [CRel] at c0
          obtain ⟨us, rd, q⟩ := c0
          refine .inr ⟨d, .dK us, rd, True.intro, fun od => ?_⟩
          have St : Stp r w H r w (upd H d (.frz od (.dK us))) := Stp.lockK rd
          have R1 := R.lock (od := od) hm rd q
          refine ⟨.ref d, g1, d, od, us, rfl, upd_same, ?_⟩
          refine for_vals (tb := tS X.K x) (walks_keys X.K upd_same (VRk.map St _ _ q)) R1 (S.map St) e3 ?_
          have back : ∀ {r1 : List Addr} {H1 : Hp}, Fwd r (upd H d (.frz od (.dK us))) r1 H1 → Rel X.K r1 w h1 H1 → H1 d = some (.frz od (.dK us)) ∧ Fwd r H r1 (upd H1 d (.dK us)) ∧ Stp r1 w H1 r1 w (upd H1 d (.dK us)) ∧ Rel X.K r1 w (h1.set m (.dK kvs')) (upd H1 d (.dK us)) := fun {r1 H1} F R1 => by
            obtain ⟨a1, a2⟩ := Fwd.relock rd F
            exact ⟨a1, a2, Stp.unlockK a1, R1.unlock (F.at_ hm) a1 e4⟩
          cases f1 <;> simp only [EndS] at C ⊢
          · exact fun r1 z1 H1 F R1 S1 => by obtain ⟨a1, a2, a3, a4⟩ := back F R1; exact ⟨a1, C r1 z1 _ a2 a4 (S1.map a3)⟩
          · exact fun r1 u1 H1 F R1 V1 => by obtain ⟨a1, a2, a3, a4⟩ := back F R1; exact ⟨a1, C r1 u1 _ a2 a4 (VR.map a3 _ _ V1)⟩
          · exact fun r1 z1 H1 F R1 S1 => by obtain ⟨a1, a2, a3, a4⟩ := back F R1; exact ⟨a1, C r1 z1 _ a2 a4 (S1.map a3)⟩
          · exact fun r1 z1 H1 F R1 S1 => by obtain ⟨a1, a2, a3, a4⟩ := back F R1; exact ⟨a1, C r1 z1 _ a2 a4 (S1.map a3)⟩
        · cases e
    · cases e
  · cases e
/-! ### [.. for k in d.keys()] -/
theorem lcK_wk {K : PySem.W.Frag} {n : Nat} {gt : TG} {gm : XG} {c : XT} {me : XE} {own : List Nat} (tg : TgOk K own gt gm) : ∀ z H Q, tF K (xLcK n gm c me own) z H Q →
    tLc (iKeysM (tVar n)) gt (tT K c) (tM K me) own z H Q ∨ ∃ d u, H d = some u ∧ Mut (some u) ∧ ∀ od, tLc (iKeysM (tVar n)) gt (tT K c) (tM K me) own z (upd H d (.frz od u)) fun v H' => H' d = some (.frz od u) ∧ Q v (upd H' d u) := fun z H Q ⟨r, w, s, h, v, h', R, S, ev, C⟩ => by
  unfold xLcK at ev
  split at ev
  · rename_i kvs e1
    split at ev
    · rename_i ys h2 e2
      simp only [Option.some.injEq, Prod.mk.injEq] at ev
      obtain ⟨rfl, rfl⟩ := ev
      obtain ⟨u, g1, g2⟩ := S.2 n _ e1
      simp only [VR] at g2
      obtain ⟨d, us, rfl, nd, rd, q⟩ := g2
      rcases rd with rd | ⟨od, rd⟩
      · refine .inr ⟨d, .dK us, rd, True.intro, fun od => ?_⟩
        have St : Stp r w H r w (upd H d (.frz od (.dK us))) := Stp.lockK rd
        have R1 := R.stp St nd.1
        refine ⟨.ref d, g1, d, od, us, rfl, upd_same, fun D hD => ?_⟩
        refine lc_vals (Q := fun v H' => H' d = some (.frz od (.dK us)) ∧ Q v (upd H' d (.dK us))) (walks_keys K upd_same (VRk.map St _ _ q)) tg R1 (S.map St) hD e2 fun r1 p H1 F n R2 V2 => ?_
        obtain ⟨a1, a2⟩ := Fwd.relock rd F
        have ne : p ≠ d := fun z => by rw [z, upd_same] at n; cases n
        have St2 := Stp.unlockK (r := r1) (w := p :: w) a1
        refine ⟨a1, C r1 p _ a2 (by rwa [upd_ne ne] at n) (R2.stp St2 (F.nin nd.1 upd_same)) (VF.map St2 (upd_ne ne) V2)⟩
      · exact .inl ⟨.ref d, g1, d, od, us, rfl, rd, fun D hD => lc_vals (walks_keys K rd q) tg R S hD e2 C⟩
    · cases ev
  · rename_i m e1
    split at ev
    · rename_i kvs e2
      split at ev
      · rename_i ys h2 e3
        split at ev
        · rename_i kvs' e4
          simp only [Option.some.injEq, Prod.mk.injEq] at ev
          obtain ⟨rfl, rfl⟩ := ev
          obtain ⟨u, g1, g2⟩ := S.2 n _ e1
          simp only [VR] at g2
          obtain ⟨d, rfl, hm⟩ := g2
          have c0 := R.at_ m d _ hm e2
          simp only [CRel] at c0
          obtain ⟨us, rd, q⟩ := c0
          refine .inr ⟨d, .dK us, rd, True.intro, fun od => ?_⟩
          have St : Stp r w H r w (upd H d (.frz od (.dK us))) := Stp.lockK rd
          have R1 := R.lock (od := od) hm rd q
          refine ⟨.ref d, g1, d, od, us, rfl, upd_same, fun D hD => ?_⟩
          refine lc_vals (Q := fun v H' => H' d = some (.frz od (.dK us)) ∧ Q v (upd H' d (.dK us))) (walks_keys K upd_same (VRk.map St _ _ q)) tg R1 (S.map St) hD e3 fun r1 p H1 F n R2 V2 => ?_
          obtain ⟨a1, a2⟩ := Fwd.relock rd F
          have ne : p ≠ d := fun z => by rw [z, upd_same] at n; cases n
          have St2 := Stp.unlockK (r := r1) (w := p :: w) a1
          exact ⟨a1, C r1 p _ a2 (by rwa [upd_ne ne] at n) (R2.unlock (F.at_ hm) a1 e4) (VF.map St2 (upd_ne ne) V2)⟩
        · cases ev
      · cases ev
    · cases ev
  · cases ev
theorem mf_lcK {n : Nat} {t : Str} {p1 apos cpos : Pos} {elt : Expr} {ifs : List Expr} {scope : Scope} {own : List (Str × Nat)} {gm : XG} {gt : TG} {c : XT} {me : XE} (hN : X.N.Nodup) (hn : X.N[n]? = some t) (ok : blkC X.N X.env.scope scope own = true) (tk : TgOk X.K (own.map (·.2)) gt gm)
    (hg : ∀ (s : Shared) (H : Hp) (C : Addr) (cl : List (Str × Addr)) (fp : List Addr), PG (X.blk s H scope (compEnvC scope cl C X.env) fp) tg gt)
    (ht : ∀ (s : Shared) (H : Hp) (C : Addr) (cl : List (Str × Addr)) (fp : List Addr), MTs (X.blk s H scope (compEnvC scope cl C X.env) fp) ifs c)
    (he : ∀ (s : Shared) (H : Hp) (C : Addr) (cl : List (Str × Addr)) (fp : List Addr), ME (X.blk s H scope (compEnvC scope cl C X.env) fp) elt me)
    (hv : Vis X.env.scope t := by first | exact Or.inl rfl | exact Or.inr (Or.inl rfl) | exact Or.inr (Or.inr rfl)) (hd : (t == ("__debug__" : Str)) = false := by decide +kernel) (hcd : (t == ("__classdict__" : Str)) = false := by decide +kernel)
    (hs : ∀ x, foldedSetIterable (.Call (.Attribute (.Name t p1) "keys" apos) [] [] cpos) X.env x = pure x := by intro _; rfl) (hc : X.calm = true := by rfl)
    (hbase : attributeBase (.Name t p1) "keys" X.env (eval (.Name t p1) X.env) = eval (.Name t p1) X.env := by rfl) (hline : (apos.endLine == cpos.line) = true := by rfl) :
    MF X (.ListComp elt [⟨tg, .Call (.Attribute (.Name t p1) "keys" apos) [] [] cpos, ifs, 0⟩] scope pos) (xLcK n gm c me (own.map (·.2))) := by
  have base : PE X (.ListComp elt [⟨tg, .Call (.Attribute (.Name t p1) "keys" apos) [] [] cpos, ifs, 0⟩] scope pos) (tLc (iKeysM (tVar n)) gt (tT X.K c) (tM X.K me) (own.map (·.2))) := pe_lc hc hN (pi_keysM (apos := apos) (cpos := cpos) (pe_var (pos := p1) hn hv hd hcd) hbase hline) (blkOk_by ok) hg ht he hs
  exact PE.wk (PE.or2 base (pe_lock base)) (lcK_wk tk)
/-! ### tuple(d.keys()), t[::-1] -/
end
end Ew
end

section
set_option Elab.async false
set_option linter.all false
set_option maxRecDepth 100000
set_option maxHeartbeats 4000000
/-! EwL: t[::-1], enumerate(t), tuple(d.keys()). -/
namespace Ew
open PySem PySem.Spec PyProof.Rows L2 HT
variable [Tabs]
section
variable {prog : Program} {w : World} {A : Around} {E : Value → Shared → Prop} {s : Shared}
end
section
variable {K : PySem.W.Frag} {X : Cx} {e a b c o i : Expr} {m ma mb mc mo mi : XE} {pos p q : Pos} {es : List Expr} {mas : XA}
theorem VRs.reverse {r w : List Addr} {H : Hp} {xs : List MV} {us : List V} (h : VRs K r w H xs us) : VRs K r w H xs.reverse us.reverse := by
  induction xs generalizing us with
  | nil => simp only [VRs] at h; subst h; simp [VRs]
  | cons x xs ih =>
    simp only [VRs] at h
    obtain ⟨u, t, rfl, q1, q2⟩ := h
    rw [List.reverse_cons, List.reverse_cons]
    exact VRs.append (ih q2) (VRs.one q1)
end
/-! ### enumerate(t) -/
section
variable {prog : Program} {w : World} {A : Around} {E : Value → Shared → Prop} {s : Shared}
end
section
variable {K : PySem.W.Frag} {X : Cx} {e : Expr} {m : XE} {pos p tpos : Pos}
end
/-! ### tuple(d.keys()) -/
section
variable {prog : Program} {w : World} {A : Around} {E : Value → Shared → Prop} {s : Shared} {r d : Addr} {n : Nat} {P : Nat → Value → Prop} {OK : Heap → Prop}
end
section
variable {X : Cx} {o : Expr} {mo : XE} {pos p q apos : Pos}
end
end Ew
end

section
set_option Elab.async false
set_option linter.all false
set_option maxRecDepth 100000
set_option maxHeartbeats 4000000
/-! EwN: l.extend(t), t a tuple. -/
namespace Ew
open PySem PySem.Spec PyProof.Rows L2 HT
variable [Tabs]
section
variable {X : Cx}
end
section
variable {X : Cx} {o e : Expr} {mo m : XE} {pos : Pos}
end
end Ew
end

section
set_option Elab.async false
set_option linter.all false
set_option maxRecDepth 100000
set_option maxHeartbeats 4000000
/-! EwO: tuple(reversed(t)), t a tuple. -/
namespace Ew
open PySem PySem.Spec PyProof.Rows L2 HT RT
variable [Tabs]
section
variable {prog : Program} {w : World} {A : Around} {E : Value → Shared → Prop} {s : Shared}
end
section
variable {X : Cx} {e : Expr} {m : XE} {p p2 pos pos2 : Pos}
end
section
variable {X : Cx} {m : XE}
end
end Ew
end

section
set_option Elab.async false
set_option linter.all false
set_option maxRecDepth 100000
set_option maxHeartbeats 4000000
/-! EwM: sum, sorted(set(t)). -/
namespace Ew
open PySem PySem.Spec PyProof.Rows L2
variable [Tabs]
section
variable {K : PySem.W.Frag} {X : Cx} {e a b c o i : Expr} {m ma mb mc mo mi : XE} {pos p q p2 : Pos} {es : List Expr} {mas : XA}
end
end Ew
end

section
set_option Elab.async false
set_option linter.all false
set_option maxRecDepth 100000
set_option maxHeartbeats 4000000
/-! EwP: sorted(e, key=lambda x: ..). -/
namespace Ew
open PySem PySem.Spec PyProof.Rows L2 NdefX LamX
variable [Tabs]
/-! ### the lambda's object -/
abbrev lmObj (q : Str) (params : Arguments) (body : Expr) (scope : Scope) (cl : List (Str × Addr)) (pm : Value) (c : Addr) (ct : Value) : Obj := PySem.W.kla_obj "<lambda>" q params body scope cl pm c ct
/-- its words, for the nested functions' context -/
abbrev lmF (q : Str) (params : Arguments) (scope : Scope) (cl : List (Str × Addr)) (c : Addr) : NF := ⟨"<lambda>", q, params, [], scope, cl, c⟩
section
variable {P : Program} {w : World} {K : PySem.W.Frag} {mg : Str → Option Value} {base : Heap} {N ps fr : List Str} {q : Str} {params : Arguments} {body : Expr} {scope : Scope} {cl : List (Str × Addr)} {pm ct : Value} {f c : Addr} {k : Nat}
end
/-! ### the lambda made -/
section
variable {X : Cx} {pins : List (Addr × Obj)} {σ : L2.St} {H : Hp} {s : Shared}
end
/-- what the lambda needs of its def: its scope, its place in the text -/
structure LamOk (X : Cx) (N fr : List Str) (p : Str) (js : List Nat) (params : Arguments) (body : Expr) (scope : Scope) : Prop where
  sc : NScope N [p] fr scope
  nn : N = p :: fr
  bind : ∀ (q : Str) (cl : List (Str × Addr)) (pm c ct : Value) (us : List Value), us.length = 1 → bindArgs (PySem.W.kla_fn "<lambda>" q params body scope cl pm c ct) ⟨us, []⟩ = pure ([p].zip us)
  dflt : defaultsOf params X.env = ([], [])
  free : ∀ y ∈ scope.names, y.2 = .free → X.env.scope.names.lookup y.1 = some .cell ∨ X.env.scope.names.lookup y.1 = some .free
  frs : ∀ y ∈ fr, (y, NameKind.free) ∈ scope.names
  at_ : js.map (fun j => X.N[j]?) = fr.map some
section
variable {X : Cx} {pins : List (Addr × Obj)} {σ : L2.St} {H : Hp} {s : Shared} {N fr : List Str} {p : Str} {js : List Nat} {params : Arguments} {body : Expr} {scope : Scope} {q : Str} {f c : Addr} {pm ct : Value} {k : Nat}
end
/-! ### the sort -/
section
variable {X : Cx} {pins : List (Addr × Obj)} {σ : L2.St} {H : Hp} {s : Shared} {N fr : List Str} {p : Str} {js : List Nat} {params : Arguments} {body : Expr} {scope : Scope} {q : Str} {f c : Addr} {pm ct : Value} {k : Nat}
end
section
variable {X : Cx} {N fr : List Str} {p : Str} {js : List Nat} {params : Arguments} {body e : Expr} {scope : Scope} {c P : Addr} {k n : Nat} {me mb : XE} {p1 pos lpos kpos : Pos}
end
end Ew
end

section
set_option Elab.async false
set_option linter.all false
set_option maxRecDepth 100000
set_option maxHeartbeats 4000000
/-! EwQ: defs that make lambdas; the law's end with their tables. -/
namespace Ew
open PySem PySem.Spec PyProof.Rows L2
variable [Tabs]
section
variable {P : Program} {w : World} {K : PySem.W.Frag} {mg : Str → Option Value} {base : Heap} {x : Str} {n k : Nat}
end
end Ew
end

section
set_option Elab.async false
set_option linter.all false
set_option maxRecDepth 100000
set_option maxHeartbeats 4000000
/-! EwR: min, max of lists of ints; sorted backwards. -/
namespace Ew
open PySem PySem.Spec PyProof.Rows L2 Srt SrtO SrtR
variable [Tabs]
section
variable {K : PySem.W.Frag} {X : Cx} {e : Expr} {es : List Expr} {m : XE} {mas : XA} {pos p kpos : Pos} {kn : Nat} {kp : Pos}
/-! ### sorted(xs, reverse=True) -/
end
end Ew
end

section
set_option Elab.async false
set_option linter.all false
set_option maxRecDepth 100000
set_option maxHeartbeats 4000000
/-! EwV: max(d.values()), ints. -/
namespace Ew
open PySem PySem.Spec PyProof.Rows L2
variable [Tabs]
section
variable {K : PySem.W.Frag} {X : Cx} {o : Expr} {mo : XE} {pos p apos mpos : Pos}
end
/-! ### x in a list of data of any depth -/
section
variable {K : PySem.W.Frag} {X : Cx} {a b : Expr} {ma mb : XE} {pos : Pos}
end
/-! ### d.clear() -/
section
variable {K : PySem.W.Frag} {X : Cx} {o : Expr} {mo : XE} {pos p apos : Pos}
end
/-! ### for x, y in zip(xs, ys), lists -/
section
variable {K : PySem.W.Frag} {X : Cx} {e e2 : Expr} {m m2 : XE} {pos p tpos : Pos}
end
/-! ### dict(d) -/
section
variable {X : Cx} {e : Expr} {es : List Expr} {mas : XA} {pos p : Pos}
theorem mf_dictD (hm : X.mg "dict" = none) (ha : MA X (e :: es) mas) (hg : Gl X "dict" := by rfl) (he : starEach (e :: es) X.env = (false, eval e X.env) :: starEach es X.env := by rfl) (hpl : (backTo pos (starEach es X.env)).any (·.1) = false := by rfl) :
    MF X (.Call (.Name "dict" p) (e :: es) [] pos) (xArgs fDictD mas) := mf_t call_dictD (fun r w h H xs v us Q R V e C => by
  unfold fDictD at e
  split at e
  · rename_i v'
    obtain ⟨u, rfl, q⟩ := vrs1 V
    cases e2 : dictK h v' with
    | none => rw [e2] at e; cases e
    | some kvs =>
      rw [e2] at e
      simp only [Option.map_some, Option.some.injEq] at e
      subst e
      obtain ⟨d, us, rfl, rd, q2⟩ := dictK_rd R q e2
      refine ⟨d, us, rfl, rd, fun p hp => ?_⟩
      refine C r p _ (Fwd.new r hp) hp (R.hold hp) ?_
      simp only [VF]
      exact ⟨_, upd_same, VRk.map (Stp.hold R hp) _ _ q2⟩
  · cases e) (by decide +kernel) hm ha hg (by decide +kernel) (by decide +kernel) he hpl
end
end Ew
end

section
set_option Elab.async false
set_option linter.all false
set_option maxRecDepth 100000
set_option maxHeartbeats 4000000
/-! EwY: sorted of (int, row) and of rows; enumerate of a list. -/
namespace Ew
open PySem PySem.Spec PyProof.Rows L2 PySem.W
variable [Tabs]
/-! ### the order -/
/-! ### the items in threes -/
theorem threes {K : PySem.W.Frag} {r w : List Addr} {H : Hp} {f : Bool} : ∀ {xs : List MV} {us : List V} {ks : List (List Int)}, VRs K r w H xs us → keysZ f xs = some ks → ∃ T : List (List Int × MV × V), T.map (·.1) = ks ∧ T.map (·.2.1) = xs ∧ T.map (·.2.2) = us ∧ ∀ t ∈ T, VR K r w H t.2.1 t.2.2 ∧ keyZ t.2.1 = some (f, t.1)
  | [], us, ks, q, e => by
    simp only [VRs] at q
    simp only [keysZ, Option.some.injEq] at e
    subst q; subst e
    exact ⟨[], rfl, rfl, rfl, by simp⟩
  | x :: xs, us, ks, q, e => by
    simp only [VRs] at q
    obtain ⟨u, t, rfl, q1, q2⟩ := q
    simp only [keysZ] at e
    split at e
    · rename_i g k ks' e1 e2
      split at e
      · rename_i hg
        simp only [Option.some.injEq] at e
        subst e; subst hg
        obtain ⟨T, h1, h2, h3, h4⟩ := threes q2 e2
        refine ⟨(k, x, u) :: T, by simp [h1], by simp [h2], by simp [h3], fun t ht => ?_⟩
        rcases List.mem_cons.mp ht with rfl | ht
        · exact ⟨q1, e1⟩
        · exact h4 t ht
      · cases e
    · cases e
section
variable {K : PySem.W.Frag} {X : Cx} {e : Expr} {es : List Expr} {m : XE} {mas : XA} {pos p tpos : Pos}
/-! ### enumerate(xs) -/
end
end Ew
end

section
set_option Elab.async false
set_option linter.all false
set_option maxRecDepth 100000
set_option maxHeartbeats 4000000
/-! EwU: == of lists of dicts. -/
namespace PySem.SeqAt
open AutoSeq1 (wpAny_loadPart')
open MeetsSeq MeetsSeq2 MeetsSeq3 SeqRoads2
section
variable {P0 : Program} {w0 : World}
end
end PySem.SeqAt
namespace Ew
open PySem PySem.Spec PyProof.Rows L2
variable [Tabs]
variable {X : Cx}
theorem Room.u2 {k : Nat} (hr : Room k X.A) : X.A.in1.in1.units + 64 < cLine := by
  have h := hr.un
  have : X.A.in1.in1.units = X.A.in1.units + 1 := rfl
  have : X.A.in1.units = X.A.units + 1 := rfl
  omega
/-! ### str(i) -/
section
variable {K : PySem.W.Frag} {e a b c o i : Expr} {m ma mb mc mo mi : XE} {pos p : Pos} {es : List Expr} {mas : XA} {tg : Expr}
/-! ### reversed -/
end
/-! ### xs.clear() -/
section
variable {K : PySem.W.Frag} {X : Cx} {o : Expr} {mo : XE} {pos p apos : Pos}
end
/-! ### d.get(k, x), d.pop(k) -/
section
variable {K : PySem.W.Frag} {X : Cx} {o e f : Expr} {mo m1 m2 : XE} {pos p apos : Pos}
theorem VRk.drop {K : PySem.W.Frag} {r w : List Addr} {H : Hp} (k : MK) : ∀ {xs : List (MK × MV)} {us : List (Key × V)}, VRk K r w H xs us → VRk K r w H (dropM xs k) (dropK us k)
  | [], us, h => by simp only [VRk] at h; subst h; simp only [dropM, dropK, List.filter_nil, VRk]
  | (k', x) :: xs, us, h => by
    simp only [VRk] at h
    obtain ⟨u, t, rfl, q1, q⟩ := h
    have ih := VRk.drop k q
    unfold dropM dropK at ih ⊢
    by_cases e : k' = k
    · subst e
      rw [List.filter_cons_of_neg (by simp), List.filter_cons_of_neg (by simp)]
      exact ih
    · rw [List.filter_cons_of_pos (by simpa using e), List.filter_cons_of_pos (by simpa using e)]
      simp only [VRk]
      exact ⟨u, _, rfl, q1, ih⟩
end
end Ew
end

section
set_option Elab.async false
set_option linter.all false
set_option maxRecDepth 100000
set_option maxHeartbeats 4000000
/-! EwKE: walks over the keys of whatever names a dict in a cell. -/
namespace Ew
open PySem PySem.Spec PyProof.Rows L2
section
variable [Tabs] {X : Cx} {pos : Pos}
variable {sts : List Stmt} {x : XS} {g : XG} {tg : Expr}
end
section
variable [Tabs] {X : Cx} {pos : Pos} {e o : Expr} {m mo : XE}
end
section
variable [Tabs] {K : PySem.W.Frag} {X : Cx} {pos p fp : Pos} {e : Expr} {m : XE} {sts : List Stmt} {x : XS} {g : XG} {tg : Expr}
end
end Ew
end

section
set_option Elab.async false
set_option linter.all false
set_option maxRecDepth 100000
set_option maxHeartbeats 4000000
/-! EwPR: three names stored at once. -/
namespace Ew
open PySem PySem.Spec PyProof.Rows L2
variable [Tabs]
section
variable {K : PySem.W.Frag} {X : Cx} {a b c : Expr} {ma mb mc : XE} {pos : Pos}
end
end Ew
end

section
set_option linter.all false
set_option maxRecDepth 100000
/-! EwT: plain lemmas of the small machine: loops, numbers, data. -/
namespace Ew
open PySem (Str)
/-! ### composing -/
theorem seq_nx {a b : XS} {s s1 : SM} {h h1 : MH} (e : a s h = some (.nx, s1, h1)) : sSeq a b s h = b s1 h1 := by simp only [sSeq, e]
theorem for_at {it : XI} {g : XG} {b : XS} {s : SM} {h h1 : MH} {xs : List MV} (e : it s h = some (.vals xs, h1)) : sFor it g b s h = forGo g b xs s h1 := by simp only [sFor, e]
theorem run_rt {n : Nat} {b : XS} {vs : List MV} {h h1 : MH} {s : SM} {v : MV} (e : b (sBegin n vs) h = some (.rt v, s, h1)) : runDef n b vs h = some (v, h1) := by simp only [runDef, e]
theorem run_nx {n : Nat} {b : XS} {vs : List MV} {h h1 : MH} {s : SM} (e : b (sBegin n vs) h = some (.nx, s, h1)) : runDef n b vs h = some (.non, h1) := by simp only [runDef, e]
theorem lc_at {it : XI} {g : XG} {c : XT} {e : XE} {own : List Nat} {s : SM} {h h1 h2 : MH} {xs ys : List MV} (e1 : it s h = some (.vals xs, h1)) (e2 : lcGo g c e [] xs (wipeM s own) h1 = some (ys, h2)) : xLc it g c e own s h = some (.lst ys, h2) := by simp only [xLc, e1, e2]
theorem lcK_at {n : Nat} {g : XG} {c : XT} {e : XE} {own : List Nat} {s : SM} {h h2 : MH} {kvs : List (MK × MV)} {ys : List MV} (e1 : s[n]? = some (some (.dK kvs))) (e2 : lcGo g c e [] (kvs.map fun kv => keyV kv.1) (wipeM s own) h = some (ys, h2)) : xLcK n g c e own s h = some (.lst ys, h2) := by simp only [xLcK, e1, e2]
theorem ret_at {e : XE} {s : SM} {h h1 : MH} {v : MV} (e1 : e s h = some (v, h1)) : sRet e s h = some (.rt v, s, h1) := by simp only [sRet, e1]
theorem set_at {i : Nat} {e : XE} {s : SM} {h h1 : MH} {v : MV} (e1 : e s h = some (v, h1)) : sAsg e (gNm i) s h = some (.nx, s.set i (some v), h1) := by simp only [sAsg, gNm, e1]
theorem rng1_at {e : XE} {s : SM} {h h1 : MH} {j : Int} (e1 : e s h = some (.int j, h1)) (hj : -4611686018427387904 ≤ j ∧ j < 4611686018427387904) : iRange1 e s h = some (.vals (rngM 0 j.toNat), h1) := by
  have q : (-(2 ^ 62) ≤ j ∧ j < 2 ^ 62) := by omega
  simp only [iRange1, e1]
  rw [if_pos q]
theorem forK_at {n : Nat} {g : XG} {b : XS} {s : SM} {h : MH} {kvs : List (MK × MV)} (e1 : s[n]? = some (some (.dK kvs))) : sForK n g b s h = forGo g b (kvs.map fun kv => keyV kv.1) s h := by simp only [sForK, e1]
theorem un_at {f : MH → MV → Option MV} {a : XE} {s : SM} {h h1 : MH} {x v : MV} (e1 : a s h = some (x, h1)) (e2 : f h1 x = some v) : xUn f a s h = some (v, h1) := by simp only [xUn, e1, e2]
theorem op_at {f : MH → MV → MV → Option MV} {a b : XE} {s : SM} {h h1 h2 : MH} {x y v : MV} (e1 : a s h = some (x, h1)) (e2 : b s h1 = some (y, h2)) (e3 : f h2 x y = some v) : xOp f a b s h = some (v, h2) := by simp only [xOp, e1, e2, e3]
theorem args1_at {f : MH → List MV → Option MV} {a : XE} {s : SM} {h h1 : MH} {x v : MV} (e1 : a s h = some (x, h1)) (e2 : f h1 [x] = some v) : xArgs f (xCons a xNil) s h = some (v, h1) := by simp only [xArgs, xCons, xNil, e1, e2]
theorem if_t {c : XT} {a b : XS} {s : SM} {h h1 : MH} (e : c s h = some (true, h1)) : sIf c a b s h = a s h1 := by simp only [sIf, e]
theorem if_f {c : XT} {a b : XS} {s : SM} {h h1 : MH} (e : c s h = some (false, h1)) : sIf c a b s h = b s h1 := by simp only [sIf, e]
theorem call_1 {g : Fn} {i : Nat} {x : MV} {s : SM} {h : MH} (e1 : s[i]? = some (some x)) : xCall g (xCons (xVar i) xNil) s h = g [x] h := by simp only [xCall, xCons, xNil, xVar, e1]
/-! ### loops -/
/-- a walk that ends by itself -/
theorem forGo_run {g : XG} {b : XS} (I : Nat → SM → MH → Prop) (xs : List MV) (k : Nat) (s : SM) (h : MH) (h0 : I k s h)
    (step : ∀ i x s h, xs[i]? = some x → I (k + i) s h → ∃ s1 h1 f s2 h2, g x s h = some (s1, h1) ∧ b s1 h1 = some (f, s2, h2) ∧ (f = .nx ∨ f = .ct) ∧ I (k + i + 1) s2 h2) :
    ∃ s' h', forGo g b xs s h = some (.nx, s', h') ∧ I (k + xs.length) s' h' := by
  induction xs generalizing k s h with
  | nil => exact ⟨s, h, rfl, h0⟩
  | cons x xs ih =>
    obtain ⟨s1, h1, f, s2, h2, e1, e2, hf, i2⟩ := step 0 x s h rfl h0
    obtain ⟨s', h', e3, i3⟩ := ih (k + 1) s2 h2 i2 (fun i y s h ey hi => by
      have := step (i + 1) y s h ey (by rw [show k + (i + 1) = k + 1 + i by omega]; exact hi)
      rw [show k + (i + 1) + 1 = k + 1 + i + 1 by omega] at this
      exact this)
    refine ⟨s', h', ?_, by rw [List.length_cons, show k + (xs.length + 1) = k + 1 + xs.length by omega]; exact i3⟩
    rcases hf with rfl | rfl <;> simp only [forGo, e1, e2, e3]
/-- a walk that may end early: at each turn it goes on with I or ends with E -/
theorem forGo_ret {g : XG} {b : XS} (I : Nat → SM → MH → Prop) (E : Fl → SM → MH → Prop) (xs : List MV) (k : Nat) (s : SM) (h : MH) (h0 : I k s h) (fin : ∀ s h, I (k + xs.length) s h → E .nx s h)
    (step : ∀ i x s h, xs[i]? = some x → I (k + i) s h → ∃ s1 h1 f s2 h2, g x s h = some (s1, h1) ∧ b s1 h1 = some (f, s2, h2) ∧ (((f = .nx ∨ f = .ct) ∧ I (k + i + 1) s2 h2) ∨ (f = .bk ∧ E .nx s2 h2) ∨ ∃ v, f = .rt v ∧ E (.rt v) s2 h2)) :
    ∃ f s' h', forGo g b xs s h = some (f, s', h') ∧ E f s' h' := by
  induction xs generalizing k s h with
  | nil => exact ⟨.nx, s, h, rfl, fin s h h0⟩
  | cons x xs ih =>
    obtain ⟨s1, h1, f, s2, h2, e1, e2, c⟩ := step 0 x s h rfl h0
    rcases c with ⟨hf, i2⟩ | ⟨rfl, q⟩ | ⟨v, rfl, q⟩
    · obtain ⟨f3, s', h', e3, i3⟩ := ih (k + 1) s2 h2 i2 (fun s h hi => fin s h (by rw [List.length_cons, show k + (xs.length + 1) = k + 1 + xs.length by omega]; exact hi)) (fun i y s h ey hi => by
        have := step (i + 1) y s h ey (by rw [show k + (i + 1) = k + 1 + i by omega]; exact hi)
        rw [show k + (i + 1) + 1 = k + 1 + i + 1 by omega] at this
        exact this)
      refine ⟨f3, s', h', ?_, i3⟩
      rcases hf with rfl | rfl <;> simp only [forGo, e1, e2, e3]
    · exact ⟨.nx, s2, h2, by simp only [forGo, e1, e2], q⟩
    · exact ⟨.rt v, s2, h2, by simp only [forGo, e1, e2], q⟩
theorem whileGo_mono {c : XT} {b : XS} : ∀ (n : Nat) (s : SM) (h : MH) (r : Fl × SM × MH), whileGo c b n s h = some r → whileGo c b (n + 1) s h = some r
  | 0, s, h, r, e => by simp [whileGo] at e
  | n + 1, s, h, r, e => by
    rw [whileGo] at e ⊢
    cases e1 : c s h with
    | none => simp only [e1] at e; cases e
    | some p =>
      obtain ⟨k, h1⟩ := p
      cases k with
      | false => simp only [e1] at e ⊢; exact e
      | true =>
        simp only [e1] at e ⊢
        cases e2 : b s h1 with
        | none => simp only [e2] at e; cases e
        | some q =>
          obtain ⟨f, s2, h2⟩ := q
          cases f with
          | nx => simp only [e2] at e ⊢; exact whileGo_mono n s2 h2 r e
          | ct => simp only [e2] at e ⊢; exact whileGo_mono n s2 h2 r e
          | bk => simp only [e2] at e ⊢; exact e
          | rt v => simp only [e2] at e ⊢; exact e
/-- a loop that ends by its test -/
theorem sWhile_run {c : XT} {b : XS} (I E : SM → MH → Prop) (mu : SM → MH → Nat)
    (st : ∀ s h, I s h → (∃ h1, c s h = some (false, h1) ∧ E s h1) ∨ ∃ h1 f s2 h2, c s h = some (true, h1) ∧ b s h1 = some (f, s2, h2) ∧ (f = .nx ∨ f = .ct) ∧ I s2 h2 ∧ mu s2 h2 < mu s h)
    (s : SM) (h : MH) (h0 : I s h) : ∃ s' h', sWhile c b s h = some (.nx, s', h') ∧ E s' h' := by
  have key : ∀ (k : Nat) (s : SM) (h : MH), mu s h < k → I s h → ∃ n s' h', whileGo c b n s h = some (.nx, s', h') ∧ E s' h' := fun k => by
    induction k with
    | zero => exact fun s h hk => absurd hk (Nat.not_lt_zero _)
    | succ k ih =>
      intro s h hk hi
      rcases st s h hi with ⟨h1, e1, q⟩ | ⟨h1, f, s2, h2, e1, e2, hf, i2, m2⟩
      · exact ⟨1, s, h1, by simp only [whileGo, e1], q⟩
      · obtain ⟨n, s', h', e3, q⟩ := ih s2 h2 (by omega) i2
        refine ⟨n + 1, s', h', ?_, q⟩
        rcases hf with rfl | rfl <;> simp only [whileGo, e1, e2, e3]
  obtain ⟨n, s', h', e, q⟩ := key (mu s h + 1) s h (Nat.lt_succ_self _) h0
  exact ⟨s', h', fuel_of (fun n r e => whileGo_mono n s h r e) e, q⟩
/-! ### numbers -/
theorem log2_lt {i : Int} (h0 : -1606938044258990275541962092341162602522202993782792835301376 < i) (h1 : i < 1606938044258990275541962092341162602522202993782792835301376) : i.natAbs.log2 < 200 := by
  by_cases q : i.natAbs = 0
  · rw [q]; decide
  · exact (Nat.log2_lt q).mpr (by have : (2 : Nat) ^ 200 = 1606938044258990275541962092341162602522202993782792835301376 := by decide
                                  omega)
theorem mul_ok {h : MH} {i j : Int} (a0 : -1606938044258990275541962092341162602522202993782792835301376 < i) (a1 : i < 1606938044258990275541962092341162602522202993782792835301376) (b0 : -1606938044258990275541962092341162602522202993782792835301376 < j) (b1 : j < 1606938044258990275541962092341162602522202993782792835301376) : opMul h (.int i) (.int j) = some (.int (i * j)) := by
  have := log2_lt a0 a1
  have := log2_lt b0 b1
  simp only [opMul]
  rw [if_pos (by omega)]
theorem div_ok {h : MH} {i j : Int} (b0 : 0 < j) (b1 : j < 1606938044258990275541962092341162602522202993782792835301376) : opDiv h (.int i) (.int j) = some (.int (i / j)) := by
  have := log2_lt (i := j) (by omega) b1
  simp only [opDiv]
  rw [if_pos ⟨b0, by omega⟩]
theorem mod_ok {h : MH} {i j : Int} (b0 : 0 < j) : opMod h (.int i) (.int j) = some (.int (i % j)) := by
  simp only [opMod]
  rw [if_pos b0]
/-! ### data -/
theorem isDs_ints (n : Nat) : ∀ xs : List Int, isDs n (xs.map .int) = true
  | [] => by simp [isDs]
  | x :: xs => by simp [isDs, isD, isDs_ints n xs]
theorem isD_ints (n : Nat) (xs : List Int) : isD (n + 1) (.lst (xs.map .int)) = true := by simp only [isD]; exact isDs_ints n xs
theorem eqDs_ints : ∀ xs ys : List Int, eqDs (xs.map .int) (ys.map .int) = (xs == ys)
  | [], [] => by simp [eqDs]
  | [], _ :: _ => by simp [eqDs]
  | _ :: _, [] => by simp [eqDs]
  | x :: xs, y :: ys => by simp [eqDs, eqD, eqDs_ints xs ys]
theorem eq_cell {h : MH} {d : Nat} {xs : List Int} (ys : List Int) (e : h[d]? = some (.lst (xs.map .int))) : opEq h (.ref d) (.lst (ys.map .int)) = some (.bl (xs == ys)) := by
  simp only [opEq, dictK, e, opEq0, eqM, rdM, isD_ints 59, eqD, eqDs_ints, Bool.and_self, if_true, Option.map_some]
theorem get_last {h : MH} {c : MC} : (h ++ [c])[h.length]? = some c := by simp
theorem set_last {h : MH} {c d : MC} : (h ++ [c]).set h.length d = h ++ [d] := by simp
theorem set_same {h : MH} {n : Nat} {c : MC} (e : h[n]? = some c) : h.set n c = h := by
  obtain ⟨hl, e⟩ := List.getElem?_eq_some_iff.mp e
  subst e
  exact List.set_getElem_self hl
theorem rng_at {lo : Int} {n i : Nat} {x : MV} (e : (rngM lo n)[i]? = some x) : x = .int (lo + (i : Nat)) ∧ i < n := by
  unfold rngM at e
  rw [List.getElem?_map] at e
  by_cases q : i < n
  · rw [List.getElem?_range q] at e
    cases e
    exact ⟨rfl, q⟩
  · rw [List.getElem?_eq_none (by simpa using q)] at e
    cases e
theorem rng_len {lo : Int} {n : Nat} : (rngM lo n).length = n := by simp [rngM]
theorem map_at {α β : Type} {f : α → β} {xs : List α} {i : Nat} : (xs.map f)[i]? = xs[i]?.map f := List.getElem?_map
theorem ix_nat {n i : Nat} (h : i < n) : ixM n (i : Int) = some i := by
  unfold ixM
  rw [if_pos (by omega), if_pos (by omega)]
  rfl
theorem at_nat {xs : List MV} {i : Nat} {v : MV} (e : xs[i]? = some v) : atM xs (i : Int) = some v := by
  unfold atM
  rw [ix_nat (List.getElem?_eq_some_iff.mp e).1]
  exact e
theorem st_NoneType_bool : subTy "NoneType" "bool" = false := rfl
theorem st_NoneType_int : subTy "NoneType" "int" = false := rfl
theorem st_NoneType_str : subTy "NoneType" "str" = false := rfl
theorem st_NoneType_tuple : subTy "NoneType" "tuple" = false := rfl
theorem st_NoneType_list : subTy "NoneType" "list" = false := rfl
theorem st_NoneType_dict : subTy "NoneType" "dict" = false := rfl
theorem st_bool_bool : subTy "bool" "bool" = true := rfl
theorem st_bool_int : subTy "bool" "int" = true := rfl
theorem st_bool_str : subTy "bool" "str" = false := rfl
theorem st_bool_tuple : subTy "bool" "tuple" = false := rfl
theorem st_bool_list : subTy "bool" "list" = false := rfl
theorem st_bool_dict : subTy "bool" "dict" = false := rfl
theorem st_int_bool : subTy "int" "bool" = false := rfl
theorem st_int_int : subTy "int" "int" = true := rfl
theorem st_int_str : subTy "int" "str" = false := rfl
theorem st_int_tuple : subTy "int" "tuple" = false := rfl
theorem st_int_list : subTy "int" "list" = false := rfl
theorem st_int_dict : subTy "int" "dict" = false := rfl
theorem st_str_bool : subTy "str" "bool" = false := rfl
theorem st_str_int : subTy "str" "int" = false := rfl
theorem st_str_str : subTy "str" "str" = true := rfl
theorem st_str_tuple : subTy "str" "tuple" = false := rfl
theorem st_str_list : subTy "str" "list" = false := rfl
theorem st_str_dict : subTy "str" "dict" = false := rfl
theorem st_tuple_bool : subTy "tuple" "bool" = false := rfl
theorem st_tuple_int : subTy "tuple" "int" = false := rfl
theorem st_tuple_str : subTy "tuple" "str" = false := rfl
theorem st_tuple_tuple : subTy "tuple" "tuple" = true := rfl
theorem st_tuple_list : subTy "tuple" "list" = false := rfl
theorem st_tuple_dict : subTy "tuple" "dict" = false := rfl
theorem st_list_bool : subTy "list" "bool" = false := rfl
theorem st_list_int : subTy "list" "int" = false := rfl
theorem st_list_str : subTy "list" "str" = false := rfl
theorem st_list_tuple : subTy "list" "tuple" = false := rfl
theorem st_list_list : subTy "list" "list" = true := rfl
theorem st_list_dict : subTy "list" "dict" = false := rfl
theorem st_dict_bool : subTy "dict" "bool" = false := rfl
theorem st_dict_int : subTy "dict" "int" = false := rfl
theorem st_dict_str : subTy "dict" "str" = false := rfl
theorem st_dict_tuple : subTy "dict" "tuple" = false := rfl
theorem st_dict_list : subTy "dict" "list" = false := rfl
theorem st_dict_dict : subTy "dict" "dict" = true := rfl
theorem at_0 {x : MV} {xs : List MV} : atM (x :: xs) 0 = some x := by
  have := at_nat (xs := x :: xs) (i := 0) (v := x) rfl
  exact this
theorem at_1 {x y : MV} {xs : List MV} : atM (x :: y :: xs) 1 = some y := at_nat (xs := x :: y :: xs) (i := 1) rfl
theorem at_2 {x y z : MV} {xs : List MV} : atM (x :: y :: z :: xs) 2 = some z := at_nat (xs := x :: y :: z :: xs) (i := 2) rfl
theorem eq_ii (h : MH) (i j : Int) : opEq h (.int i) (.int j) = some (.bl (i == j)) := rfl
theorem ne_ii (h : MH) (i j : Int) : opNe h (.int i) (.int j) = some (.bl (!(i == j))) := rfl
theorem beq_t {i j : Int} (h : i = j) : (i == j) = true := by rw [h]; exact beq_self_eq_true j
theorem beq_f {i j : Int} (h : i ≠ j) : (i == j) = false := by simpa using h
/-- a comprehension over what some things stand for, with a test -/
theorem lcGo_gen {α : Type} {g : XG} {c : XT} {e : XE} {s : SM} {h : MH} (t : α → MV) (P : α → Bool) (f : α → MV) : ∀ (xs : List α) (acc : List MV), acc.length + xs.length ≤ szLine →
    (∀ x ∈ xs, ∃ s1, g (t x) s h = some (s1, h) ∧ c s1 h = some (P x, h) ∧ (P x = true → e s1 h = some (f x, h))) → lcGo g c e acc (xs.map t) s h = some (acc ++ (xs.filter P).map f, h)
  | [], acc, _, _ => by simp [lcGo]
  | x :: xs, acc, hz, step => by
    obtain ⟨s1, e1, e2, e3⟩ := step x List.mem_cons_self
    simp only [List.length_cons] at hz
    rw [List.map_cons, lcGo]
    simp only [e1, e2]
    cases q : P x with
    | false =>
      simp only [q]
      rw [lcGo_gen t P f xs acc (by omega) (fun y hy => step y (List.mem_cons_of_mem _ hy)), List.filter_cons_of_neg (by rw [q]; decide)]
    | true =>
      have hl : acc.length < szLine := by omega
      simp only [q, e3 q, hl, if_true]
      rw [lcGo_gen t P f xs (acc ++ [f x]) (by simp only [List.length_append, List.length_cons, List.length_nil]; omega) (fun y hy => step y (List.mem_cons_of_mem _ hy)), List.filter_cons_of_pos q]
      simp
theorem lcGo_all {α : Type} {g : XG} {c : XT} {e : XE} {s : SM} {h : MH} (t f : α → MV) (xs : List α) (acc : List MV) (hz : acc.length + xs.length ≤ szLine)
    (step : ∀ x ∈ xs, ∃ s1, g (t x) s h = some (s1, h) ∧ c s1 h = some (true, h) ∧ e s1 h = some (f x, h)) : lcGo g c e acc (xs.map t) s h = some (acc ++ xs.map f, h) := by
  rw [lcGo_gen t (fun _ => true) f xs acc hz (fun x hx => by obtain ⟨s1, a, b, c⟩ := step x hx; exact ⟨s1, a, b, fun _ => c⟩)]
  rw [List.filter_eq_self.mpr (fun _ _ => rfl)]
theorem cut_to {xs : List MV} {i : Int} (h : 0 ≤ i) : cutM xs none (some i) = xs.take i.toNat := by
  have q : ¬ i < 0 := by omega
  simp only [cutM, sIxM, if_neg q, List.drop_zero, Nat.sub_zero]
  rw [← List.take_eq_take_min]
theorem cut_from {xs : List MV} {i : Int} (h : 0 ≤ i) : cutM xs (some i) none = xs.drop i.toNat := by
  have q : ¬ i < 0 := by omega
  simp only [cutM, sIxM, if_neg q]
  by_cases c : i.toNat ≤ xs.length
  · rw [Nat.min_eq_left c, List.take_of_length_le (by rw [List.length_drop]; omega)]
  · rw [Nat.min_eq_right (by omega), List.drop_eq_nil_of_le (Nat.le_refl _), List.drop_eq_nil_of_le (by omega)]; simp
theorem flat_ints : ∀ r : List Int, (r.map MV.int).all flatM = true
  | [] => rfl
  | _ :: r => by rw [List.map_cons, List.all_cons, flat_ints r]; rfl
theorem find_ints : ∀ {r : List Int} {a : Int}, a ∈ r → (r.map MV.int).findIdx? (fun z => feqM z (.int a)) = some (r.idxOf a)
  | x :: r, a, h => by
    rw [List.map_cons, List.findIdx?_cons, List.idxOf_cons]
    by_cases q : x = a
    · have e : feqM (.int x) (.int a) = true := by simp [feqM, q]
      have e2 : (x == a) = true := by simpa using q
      rw [e, e2]; rfl
    · have e : feqM (.int x) (.int a) = false := by simp [feqM, q]
      have e2 : (x == a) = false := by simpa using q
      rw [e, e2, find_ints ((List.mem_cons.mp h).resolve_left fun z => q z.symm)]; rfl
theorem index_at {h : MH} {r : List Int} {a : Int} (ha : a ∈ r) : opIndexL h (.lst (r.map .int)) (.int a) = some (.int (r.idxOf a : Nat)) := by
  simp only [opIndexL, opIndexL0, lstV]
  rw [flat_ints, find_ints ha]
  rfl
theorem in_ints (r : List Int) (a : Int) : inSeq (.int a) (r.map .int) = some (decide (a ∈ r)) := by
  unfold inSeq
  rw [flat_ints]
  simp only [flatM, Bool.and_self, if_true]
  congr 1
  induction r with
  | nil => simp
  | cons x r ih =>
    rw [List.map_cons, List.any_cons, ih]
    simp only [feqM, List.mem_cons]
    by_cases q : x = a
    · simp [q]
    · have : ¬ a = x := fun z => q z.symm
      simp [q, this]
theorem in_lst (h : MH) (r : List Int) (a : Int) : opIn h (.int a) (.lst (r.map .int)) = some (.bl (decide (a ∈ r))) := by
  simp only [opIn, seqOf, listOf, in_ints]; rfl
theorem in_tup (h : MH) (r : List Int) (a : Int) : opIn h (.int a) (.tup (r.map .int)) = some (.bl (decide (a ∈ r))) := by
  simp only [opIn, seqOf, in_ints]; rfl
theorem notin_lst (h : MH) (r : List Int) (a : Int) : opNotIn h (.int a) (.lst (r.map .int)) = some (.bl (!decide (a ∈ r))) := by
  simp only [opNotIn, seqOf, listOf, in_ints]; rfl
theorem notin_tup (h : MH) (r : List Int) (a : Int) : opNotIn h (.int a) (.tup (r.map .int)) = some (.bl (!decide (a ∈ r))) := by
  simp only [opNotIn, seqOf, in_ints]; rfl
theorem ix_l (h : MH) (xs : List MV) (i : Int) : opIx h (.lst xs) (.int i) = atM xs i := by simp only [opIx, seqOf, listOf]
theorem ix_t (h : MH) (xs : List MV) (i : Int) : opIx h (.tup xs) (.int i) = atM xs i := by simp only [opIx, seqOf]
theorem pick {α : Type} {f : α → MV} {xs : List α} {n : Int} (hn : 0 ≤ n) (hx : xs ≠ []) : ∃ x ∈ xs, atM (xs.map f) (n % ((xs.length : Nat) : Int)) = some (f x) := by
  have hl : 0 < xs.length := List.length_pos_iff.mpr hx
  have h0 := Int.emod_nonneg n (show ((xs.length : Nat) : Int) ≠ 0 by omega)
  have h1 := Int.emod_lt_of_pos n (show (0 : Int) < ((xs.length : Nat) : Int) by omega)
  obtain ⟨k, hk⟩ := Int.eq_ofNat_of_zero_le h0
  rw [hk] at h1 ⊢
  have hk2 : k < xs.length := by omega
  exact ⟨xs[k], List.getElem_mem hk2, at_nat (by rw [List.getElem?_map, List.getElem?_eq_getElem hk2]; rfl)⟩
theorem get_app {h t : MH} {d : Nat} {c : MC} (e : h[d]? = some c) : (h ++ t)[d]? = some c := by
  rw [List.getElem?_append_left (List.getElem?_eq_some_iff.mp e).1]; exact e
theorem set_app {h t : MH} {d : Nat} {c c' : MC} (hd : d < h.length) : ((h.set d c) ++ t).set d c' = (h.set d c') ++ t := by
  rw [List.set_append_left _ _ (by simpa using hd), List.set_set]
theorem get_set {h : MH} {d : Nat} {c : MC} (hd : d < h.length) : (h.set d c)[d]? = some c := List.getElem?_set_self hd
theorem get_end {h : MH} {n : Nat} {c : MC} (hn : h.length = n) : (h ++ [c])[n]? = some c := by subst hn; exact get_last
theorem set_end {h : MH} {n : Nat} {c c' : MC} (hn : h.length = n) : (h ++ [c]).set n c' = h ++ [c'] := by subst hn; exact set_last
theorem append_at {o e : XE} {s : SM} {h h1 h2 : MH} {n : Nat} {xs ys : List MV} {v : MV} (e1 : o s h = some (.ref n, h1)) (e2 : h1[n]? = some (.lst ys)) (e3 : e s h1 = some (v, h2)) (e4 : h2[n]? = some (.lst xs)) (hz : xs.length < szLine) :
    xAppend o e s h = some (.non, h2.set n (.lst (xs ++ [v]))) := by
  simp only [xAppend, e1, isLstC, e2, if_true, e3, e4, hz]
theorem expr_at {e : XE} {s : SM} {h h1 : MH} {v : MV} (e1 : e s h = some (v, h1)) : sExpr e s h = some (.nx, s, h1) := by simp only [sExpr, e1]
/-! ### what is told to callers -/
theorem cel_app {h t : MH} {x : Nat} : CelOK h (h ++ t) h x := ⟨rfl, by simp, fun i c e => .inl ⟨by rw [List.getElem?_append_left (List.getElem?_eq_some_iff.mp e).1]; exact e, e⟩⟩
theorem FrzOK.same {g : Fn} {args : List MV} {h : MH} {v : MV} (e : ∃ v2 t, g args h = some (v2, h ++ t) ∧ Frz (h ++ t) h.length (h ++ t).length v2 v) : FrzOK g args h v h := by
  obtain ⟨v2, t, e, f⟩ := e
  exact ⟨v2, _, e, cel_app, f⟩
mutual
theorem frz_plain {h : MH} {n x : Nat} : ∀ v : MV, plainV v = true → Frz h n x v v
  | .non, _ => by simp [Frz]
  | .bl _, _ => by simp [Frz]
  | .int _, _ => by simp [Frz]
  | .str _, _ => by simp [Frz]
  | .scr _, _ => by simp [Frz]
  | .ref _, e => by simp [plainV] at e
  | .tup xs, e => by simp only [plainV] at e; simp only [Frz]; exact ⟨xs, rfl, frz_plainL xs e⟩
  | .row xs, e => by simp only [plainV] at e; simp only [Frz]; exact ⟨xs, rfl, frz_plainL xs e⟩
  | .lst xs, e => by simp only [plainV] at e; simp only [Frz]; exact .inl ⟨xs, rfl, frz_plainL xs e⟩
  | .dK xs, e => by simp only [plainV] at e; simp only [Frz]; exact .inl ⟨xs, rfl, frz_plainK xs e⟩
  | .dT xs, e => by simp only [plainV] at e; simp only [Frz]; exact .inl ⟨xs, rfl, frz_plainT xs e⟩
theorem frz_plainL {h : MH} {n x : Nat} : ∀ v : List MV, plainL v = true → Frzs h n x v v
  | [], _ => by simp [Frzs]
  | v :: vs, e => by simp only [plainL, Bool.and_eq_true] at e; simp only [Frzs]; exact ⟨v, vs, rfl, frz_plain v e.1, frz_plainL vs e.2⟩
theorem frz_plainK {h : MH} {n x : Nat} : ∀ v : List (MK × MV), plainK v = true → Frzk h n x v v
  | [], _ => by simp [Frzk]
  | (k, v) :: vs, e => by simp only [plainK, Bool.and_eq_true] at e; simp only [Frzk]; exact ⟨v, vs, rfl, frz_plain v e.1, frz_plainK vs e.2⟩
theorem frz_plainT {h : MH} {n x : Nat} : ∀ v : List (List MK × MV), plainT v = true → Frzt h n x v v
  | [], _ => by simp [Frzt]
  | (k, v) :: vs, e => by simp only [plainT, Bool.and_eq_true] at e; simp only [Frzt]; exact ⟨v, vs, rfl, frz_plain v e.1, frz_plainT vs e.2⟩
end
theorem cfrz_plain {h : MH} {n x : Nat} {c : MC} (e : plainC c = true) : CFrz h n x c c := by
  cases c <;> first | (cases e; done) | skip
  all_goals simp only [plainC] at e
  all_goals simp only [CFrz]
  · exact frz_plainL _ e
  · exact frz_plainK _ e
  · exact frz_plainT _ e
  · exact frz_plainK _ e
  · exact frz_plainT _ e
theorem Keeps.cel {h h2 : MH} {x : Nat} (k : Keeps h h2) : CelOK h h2 (h2.take h.length) x := by
  refine ⟨by rw [List.length_take]; have := k.1; omega, k.1, fun i c e => ?_⟩
  have hi : i < h.length := by
    have := (List.getElem?_eq_some_iff.mp e).1
    rw [List.length_take] at this; omega
  rw [List.getElem?_take_of_lt hi] at e
  rcases k.2 i c hi e with q | q
  · exact .inl ⟨e, q⟩
  · exact .inr ⟨c, e, cfrz_plain q⟩
theorem toldV_ok (g : Fn) : ∀ args h v h', toldV g args h = some (v, h') → FrzOK g args h v h' := by
  intro args h v h' e
  unfold toldV at e
  split at e
  · rename_i v2 h2 e2
    split at e
    · rename_i q
      simp only [Option.some.injEq, Prod.mk.injEq] at e
      obtain ⟨rfl, rfl⟩ := e
      exact ⟨v2, h2, e2, q.2.cel, frz_plain _ q.1⟩
    · cases e
  · cases e
theorem toldF_ok (g : Fn) : ∀ args h v h', toldF g args h = some (v, h') → FrzF g args h v h' := by
  intro args h v h' e
  unfold toldF at e
  split at e
  · rename_i m h2 e2
    split at e
    · rename_i q
      split at e
      · rename_i xs e3
        split at e
        · rename_i p
          simp only [Option.some.injEq, Prod.mk.injEq] at e
          obtain ⟨rfl, rfl⟩ := e
          exact ⟨m, _, h2, e2, q.1, e3, q.2.cel, frz_plainL _ p⟩
        · cases e
      · rename_i xs e3
        split at e
        · rename_i p
          simp only [Option.some.injEq, Prod.mk.injEq] at e
          obtain ⟨rfl, rfl⟩ := e
          exact ⟨m, _, h2, e2, q.1, e3, q.2.cel, frz_plainK _ p⟩
        · cases e
      · rename_i xs e3
        split at e
        · rename_i p
          simp only [Option.some.injEq, Prod.mk.injEq] at e
          obtain ⟨rfl, rfl⟩ := e
          exact ⟨m, _, h2, e2, q.1, e3, q.2.cel, frz_plainT _ p⟩
        · cases e
      · cases e
    · cases e
  · cases e
theorem keeps_of {h h' t : MH} (hl : h'.length = h.length) (hc : ∀ (i : Nat) (c : MC), h'[i]? = some c → h[i]? = some c ∨ plainC c = true) : Keeps h (h' ++ t) := ⟨by rw [List.length_append, hl]; omega, fun i c hi e => by
  rw [List.getElem?_append_left (by omega)] at e
  exact hc i c e⟩
theorem take_of {h h' t : MH} (hl : h'.length = h.length) : (h' ++ t).take h.length = h' := by rw [← hl]; simp
/-- what a def's function does, told -/
theorem toldV_at {g : Fn} {args : List MV} {h h' t : MH} {v : MV} (e : g args h = some (v, h' ++ t)) (hp : plainV v = true) (hl : h'.length = h.length) (hc : ∀ (i : Nat) (c : MC), h'[i]? = some c → h[i]? = some c ∨ plainC c = true) : toldV g args h = some (v, h') := by
  unfold toldV
  simp only [e]
  rw [if_pos ⟨hp, keeps_of hl hc⟩, take_of hl]
theorem toldF_dK {g : Fn} {args : List MV} {h h' t : MH} {m : Nat} {kvs : List (MK × MV)} (e : g args h = some (.ref m, h' ++ t)) (hm : (h' ++ t)[m]? = some (.dK kvs)) (hn : h.length ≤ m) (hp : plainK kvs = true) (hl : h'.length = h.length) (hc : ∀ (i : Nat) (c : MC), h'[i]? = some c → h[i]? = some c ∨ plainC c = true) : toldF g args h = some (.dK kvs, h') := by
  unfold toldF
  simp only [e]
  rw [if_pos ⟨hn, keeps_of hl hc⟩]
  simp only [hm]
  rw [if_pos hp, take_of hl]
theorem toldF_dT {g : Fn} {args : List MV} {h h' t : MH} {m : Nat} {kvs : List (List MK × MV)} (e : g args h = some (.ref m, h' ++ t)) (hm : (h' ++ t)[m]? = some (.dT kvs)) (hn : h.length ≤ m) (hp : plainT kvs = true) (hl : h'.length = h.length) (hc : ∀ (i : Nat) (c : MC), h'[i]? = some c → h[i]? = some c ∨ plainC c = true) : toldF g args h = some (.dT kvs, h') := by
  unfold toldF
  simp only [e]
  rw [if_pos ⟨hn, keeps_of hl hc⟩]
  simp only [hm]
  rw [if_pos hp, take_of hl]
theorem toldF_lst {g : Fn} {args : List MV} {h h' t : MH} {m : Nat} {kvs : List MV} (e : g args h = some (.ref m, h' ++ t)) (hm : (h' ++ t)[m]? = some (.lst kvs)) (hn : h.length ≤ m) (hp : plainL kvs = true) (hl : h'.length = h.length) (hc : ∀ (i : Nat) (c : MC), h'[i]? = some c → h[i]? = some c ∨ plainC c = true) : toldF g args h = some (.lst kvs, h') := by
  unfold toldF
  simp only [e]
  rw [if_pos ⟨hn, keeps_of hl hc⟩]
  simp only [hm]
  rw [if_pos hp, take_of hl]
theorem plain_ints : ∀ xs : List Int, plainL (xs.map .int) = true
  | [] => rfl
  | _ :: xs => by simp only [List.map_cons, plainL, plainV, Bool.true_and]; exact plain_ints xs
/-- a cell of plain things is written -/
theorem set_plain {h : MH} {d : Nat} {c : MC} (hp : plainC c = true) : ∀ (i : Nat) (c' : MC), (h.set d c)[i]? = some c' → h[i]? = some c' ∨ plainC c' = true := by
  intro i c' e
  rw [List.getElem?_set] at e
  split at e
  · split at e
    · cases e; exact .inr hp
    · cases e
  · exact .inl e
theorem same_plain {h : MH} : ∀ (i : Nat) (c' : MC), h[i]? = some c' → h[i]? = some c' ∨ plainC c' = true := fun _ _ e => .inl e
theorem in_row (h : MH) (r : List Int) (a : Int) : opIn h (.int a) (.row (r.map .int)) = some (.bl (decide (a ∈ r))) := by
  simp only [opIn, seqOf, in_ints, Option.map_some]
theorem notin_row (h : MH) (r : List Int) (a : Int) : opNotIn h (.int a) (.row (r.map .int)) = some (.bl (!decide (a ∈ r))) := by
  simp only [opNotIn, seqOf, in_ints, Option.map_some]
theorem ix_ref {h : MH} {n : Nat} {xs : List MV} {i : Int} (e : h[n]? = some (.lst xs)) : opIx h (.ref n) (.int i) = atM xs i := by simp only [opIx, seqOf, listOf, e]
theorem len_dK {h : MH} {kvs : List (MK × MV)} : fLen h [.dK kvs] = some (.int kvs.length) := by simp only [fLen, seqOf, listOf, dictK]
theorem seq_lst {e : XE} {s : SM} {h h1 : MH} {xs : List MV} (e1 : e s h = some (.lst xs, h1)) : iSeq e s h = some (.vals xs, h1) := by simp only [iSeq, e1, seqOf, listOf]
theorem var_at {i : Nat} {s : SM} {h : MH} {v : MV} (e : s[i]? = some (some v)) : xVar i s h = some (v, h) := by simp only [xVar, e]
theorem put_at {o k e : XE} {s : SM} {h h1 h2 h3 h4 : MH} {ov kv v : MV} (e1 : e s h = some (v, h1)) (e2 : o s h1 = some (ov, h2)) (e3 : k s h2 = some (kv, h3)) (e4 : stM h3 ov kv v = some h4) : sPut o k e s h = some (.nx, s, h4) := by simp only [sPut, e1, e2, e3, e4]
/-! ### told: a plain value, or a fresh list or dict as what it holds -/
noncomputable def toldA (g : Fn) : Fn := fun args h => match toldV g args h with
  | some r => some r
  | none => toldF g args h
theorem lt_of_get {h : MH} {m : Nat} {c : MC} (e : h[m]? = some c) : m < h.length := (List.getElem?_eq_some_iff.mp e).1
theorem toldA_ok (g : Fn) : ∀ args h v h', toldA g args h = some (v, h') → FrzOK g args h v h' := by
  intro args h v h' e
  unfold toldA at e
  cases e0 : toldV g args h with
  | some r =>
    rw [e0] at e
    simp only [Option.some.injEq] at e
    subst e
    exact toldV_ok g args h v h' e0
  | none =>
    rw [e0] at e
    simp only at e
    unfold toldF at e
    split at e
    · rename_i m h2 e2
      split at e
      · rename_i q
        split at e
        · rename_i xs e3
          split at e
          · rename_i p
            simp only [Option.some.injEq, Prod.mk.injEq] at e
            obtain ⟨rfl, rfl⟩ := e
            refine ⟨.ref m, h2, e2, q.2.cel, ?_⟩
            simp only [Frz]
            exact .inr ⟨m, xs, rfl, q.1, Nat.ne_of_lt (lt_of_get e3), e3, frz_plainL _ p⟩
          · cases e
        · rename_i xs e3
          split at e
          · rename_i p
            simp only [Option.some.injEq, Prod.mk.injEq] at e
            obtain ⟨rfl, rfl⟩ := e
            refine ⟨.ref m, h2, e2, q.2.cel, ?_⟩
            simp only [Frz]
            exact .inr ⟨m, xs, rfl, q.1, Nat.ne_of_lt (lt_of_get e3), e3, frz_plainK _ p⟩
          · cases e
        · rename_i xs e3
          split at e
          · rename_i p
            simp only [Option.some.injEq, Prod.mk.injEq] at e
            obtain ⟨rfl, rfl⟩ := e
            refine ⟨.ref m, h2, e2, q.2.cel, ?_⟩
            simp only [Frz]
            exact .inr ⟨m, xs, rfl, q.1, Nat.ne_of_lt (lt_of_get e3), e3, frz_plainT _ p⟩
          · cases e
        · cases e
      · cases e
    · cases e
theorem toldA_v {g : Fn} {args : List MV} {h h' t : MH} {v : MV} (e : g args h = some (v, h' ++ t)) (hp : plainV v = true) (hl : h'.length = h.length) (hc : ∀ (i : Nat) (c : MC), h'[i]? = some c → h[i]? = some c ∨ plainC c = true) : toldA g args h = some (v, h') := by
  unfold toldA; rw [toldV_at e hp hl hc]
/-! ### comprehensions over a cell -/
end Ew
end

section
set_option linter.all false
set_option maxRecDepth 100000
/-! EwW: plain webs: rows of neighbours, three-cornered webs built point by point. -/
namespace Ew
open PySem (Str)
abbrev WL := List (Int × List Int)
def rowsV (W : WL) : List (MK × MV) := W.map fun p => (.inl p.1, .lst (p.2.map .int))
def websV (W : WL) : List (MK × MV) := W.map fun p => (.inl p.1, .row (p.2.map .int))
def rowOf : WL → Int → Option (List Int)
  | [], _ => none
  | p :: W, u => if p.1 = u then some p.2 else rowOf W u
def keysOf' (W : WL) : List Int := W.map (·.1)
def repRow : WL → Int → List Int → WL
  | [], _, _ => []
  | p :: W, u, r => (if p.1 = u then (p.1, r) else p) :: repRow W u r
def putRow (W : WL) (u : Int) (r : List Int) : WL := if (rowOf W u).isSome then repRow W u r else W ++ [(u, r)]
theorem getK_nil {κ : Type} [DecidableEq κ] (k : κ) : getK ([] : List (κ × MV)) k = none := rfl
theorem getK_cons {κ : Type} [DecidableEq κ] (a : κ) (v : MV) (r : List (κ × MV)) (k : κ) : getK ((a, v) :: r) k = if a = k then some v else getK r k := by
  unfold getK
  rw [List.find?_cons]
  split
  · rename_i h; rw [if_pos (by simpa using h)]; rfl
  · rename_i h; rw [if_neg (by simpa using h)]
theorem getK_gen (f : List Int → MV) : ∀ (W : WL) (u : Int), getK (W.map fun p => ((.inl p.1 : MK), f p.2)) (.inl u) = (rowOf W u).map f
  | [], u => rfl
  | p :: W, u => by
    rw [List.map_cons, getK_cons, rowOf, getK_gen f W u]
    by_cases h : p.1 = u
    · rw [if_pos h, if_pos (by rw [h])]; rfl
    · rw [if_neg h, if_neg (fun z => h (Sum.inl.inj z))]
theorem any_gen (f : List Int → MV) : ∀ (W : WL) (u : Int), ((W.map fun p => ((.inl p.1 : MK), f p.2)).any fun kv => decide (kv.1 = .inl u)) = (rowOf W u).isSome
  | [], u => rfl
  | p :: W, u => by
    rw [List.map_cons, List.any_cons, rowOf, any_gen f W u]
    by_cases h : p.1 = u
    · rw [if_pos h, decide_eq_true (by rw [h])]; rfl
    · rw [if_neg h, decide_eq_false (fun z => h (Sum.inl.inj z))]; rfl
theorem rep_gen (f : List Int → MV) : ∀ (W : WL) (u : Int) (r : List Int), ((W.map fun p => ((.inl p.1 : MK), f p.2)).map fun kv => if kv.1 = .inl u then (kv.1, f r) else kv) = (repRow W u r).map fun p => ((.inl p.1 : MK), f p.2)
  | [], u, r => rfl
  | p :: W, u, r => by
    simp only [List.map_cons, repRow]
    rw [rep_gen f W u r]
    by_cases h : p.1 = u
    · simp [h]
    · simp [h]
theorem putM_gen (f : List Int → MV) (W : WL) (u : Int) (r : List Int) : putM (W.map fun p => ((.inl p.1 : MK), f p.2)) (.inl u) (f r) = (putRow W u r).map fun p => ((.inl p.1 : MK), f p.2) := by
  unfold putM putRow
  rw [any_gen, rep_gen]
  split
  · rfl
  · rw [List.map_append]; rfl
theorem getK_rows (W : WL) (u : Int) : getK (rowsV W) (.inl u) = (rowOf W u).map fun r => .lst (r.map .int) := getK_gen (fun r => .lst (r.map .int)) W u
theorem getK_webs (W : WL) (u : Int) : getK (websV W) (.inl u) = (rowOf W u).map fun r => .row (r.map .int) := getK_gen (fun r => .row (r.map .int)) W u
theorem putM_rows (W : WL) (u : Int) (r : List Int) : putM (rowsV W) (.inl u) (.lst (r.map .int)) = rowsV (putRow W u r) := putM_gen (fun r => .lst (r.map .int)) W u r
theorem putM_webs (W : WL) (u : Int) (r : List Int) : putM (websV W) (.inl u) (.row (r.map .int)) = websV (putRow W u r) := putM_gen (fun r => .row (r.map .int)) W u r
theorem rowOf_rep : ∀ (W : WL) (u : Int) (r : List Int) (v : Int), rowOf (repRow W u r) v = if v = u ∧ (rowOf W u).isSome then some r else rowOf W v
  | [], u, r, v => by simp [repRow, rowOf]
  | p :: W, u, r, v => by
    simp only [repRow, rowOf]
    rw [rowOf_rep W u r v]
    by_cases h : p.1 = u
    · by_cases q : v = u
      · subst q; simp [h]
      · have : ¬ p.1 = v := fun z => q (by rw [← z, h])
        have : ¬ u = v := fun z => q z.symm
        simp [h, q, this]
    · by_cases q : v = u
      · subst q; simp [h]
      · simp [h, q]
theorem rowOf_app : ∀ (W V : WL) (v : Int), rowOf (W ++ V) v = (rowOf W v).or (rowOf V v)
  | [], V, v => by simp [rowOf]
  | p :: W, V, v => by
    rw [List.cons_append, rowOf, rowOf, rowOf_app W V v]
    split <;> simp
theorem rowOf_put (W : WL) (u : Int) (r : List Int) (v : Int) : rowOf (putRow W u r) v = if v = u then some r else rowOf W v := by
  unfold putRow
  split
  · rename_i h
    rw [rowOf_rep]
    simp [h]
  · rename_i h
    rw [rowOf_app]
    by_cases q : v = u
    · subst q
      have : rowOf W v = none := by simpa using h
      simp [this, rowOf]
    · have : ¬ u = v := fun z => q z.symm
      simp [rowOf, q, this]
theorem rowOf_some : ∀ (W : WL) (u : Int), (rowOf W u).isSome = true ↔ u ∈ keysOf' W
  | [], u => by simp [rowOf, keysOf']
  | p :: W, u => by
    have ih := rowOf_some W u
    unfold keysOf' at ih ⊢
    rw [rowOf, List.map_cons, List.mem_cons]
    split
    · rename_i h; simp [h]
    · rename_i h; rw [ih]; exact ⟨.inr, fun z => z.elim (fun q => absurd q.symm h) id⟩
theorem rowOf_mem {W : WL} {u : Int} {r : List Int} (e : rowOf W u = some r) : u ∈ keysOf' W := (rowOf_some W u).mp (by rw [e]; rfl)
theorem rowOf_none {W : WL} {u : Int} (h : u ∉ keysOf' W) : rowOf W u = none := by
  cases e : rowOf W u with
  | none => rfl
  | some r => exact absurd (rowOf_mem e) h
theorem mem_rowOf {W : WL} {u : Int} (h : u ∈ keysOf' W) : ∃ r, rowOf W u = some r := Option.isSome_iff_exists.mp ((rowOf_some W u).mpr h)
theorem keys_rep : ∀ (W : WL) (u : Int) (r : List Int), keysOf' (repRow W u r) = keysOf' W
  | [], _, _ => rfl
  | p :: W, u, r => by
    have ih := keys_rep W u r
    unfold keysOf' at ih ⊢
    simp only [repRow, List.map_cons, ih]
    split <;> rfl
theorem keys_put (W : WL) (u : Int) (r : List Int) : keysOf' (putRow W u r) = if u ∈ keysOf' W then keysOf' W else keysOf' W ++ [u] := by
  unfold putRow
  by_cases h : u ∈ keysOf' W
  · rw [if_pos ((rowOf_some W u).mpr h), if_pos h, keys_rep]
  · rw [if_neg (fun z => h ((rowOf_some W u).mp z)), if_neg h]
    simp [keysOf']
theorem rowOf_of_mem : ∀ {W : WL} {u : Int} {r : List Int}, (keysOf' W).Nodup → (u, r) ∈ W → rowOf W u = some r
  | p :: W, u, r, nd, hm => by
    unfold keysOf' at nd
    rw [List.map_cons, List.nodup_cons] at nd
    rw [rowOf]
    rcases List.mem_cons.mp hm with q | q
    · rw [← q]; simp
    · rw [if_neg (fun z => nd.1 (by rw [z]; exact List.mem_map.mpr ⟨_, q, rfl⟩))]
      exact rowOf_of_mem (by unfold keysOf'; exact nd.2) q
theorem mem_of_rowOf : ∀ {W : WL} {u : Int} {r : List Int}, rowOf W u = some r → (u, r) ∈ W
  | [], u, r, e => by simp [rowOf] at e
  | p :: W, u, r, e => by
    rw [rowOf] at e
    split at e
    · rename_i h
      cases e
      rw [← h]
      exact List.mem_cons_self
    · exact List.mem_cons_of_mem _ (mem_of_rowOf e)
/-! ### rows that go round -/
def nxt (r : List Int) (u : Int) : Int := (r[(r.idxOf u + 1) % r.length]?).getD 0
def ins (r : List Int) (a p : Int) : List Int := r.take (r.idxOf a + 1) ++ [p] ++ r.drop (r.idxOf a + 1)
theorem split_at {r : List Int} {a : Int} (h : a ∈ r) : ∃ l1 l2, r = l1 ++ a :: l2 ∧ a ∉ l1 ∧ r.idxOf a = l1.length := by
  induction r with
  | nil => cases h
  | cons x r ih =>
    by_cases q : x = a
    · subst q; exact ⟨[], r, rfl, by simp, by simp [List.idxOf_cons]⟩
    · obtain ⟨l1, l2, e, n, i⟩ := ih ((List.mem_cons.mp h).resolve_left fun z => q z.symm)
      refine ⟨x :: l1, l2, by rw [e]; rfl, fun z => (List.mem_cons.mp z).elim (fun z => q z.symm) n, ?_⟩
      have qb : (x == a) = false := by simpa using q
      rw [List.idxOf_cons, i, qb]
      rfl
theorem idx_app {l1 l2 : List Int} {a : Int} (h : a ∉ l1) : (l1 ++ a :: l2).idxOf a = l1.length := by
  induction l1 with
  | nil => simp [List.idxOf_cons]
  | cons x l1 ih =>
    have : x ≠ a := fun z => h (by rw [z]; exact List.mem_cons_self)
    have qb : (x == a) = false := by simpa using this
    rw [List.cons_append, List.idxOf_cons, ih (fun z => h (List.mem_cons_of_mem _ z)), qb]
    rfl
theorem nxt_app {l1 l2 : List Int} {a : Int} (h : a ∉ l1) : nxt (l1 ++ a :: l2) a = (l2 ++ l1 ++ [a]).headD 0 := by
  unfold nxt
  rw [idx_app h]
  cases l2 with
  | nil =>
    have e : (l1.length + 1) % (l1 ++ [a]).length = 0 := by rw [List.length_append, List.length_singleton, Nat.mod_self]
    rw [e]
    cases l1 <;> rfl
  | cons b l2 =>
    have e : (l1.length + 1) % (l1 ++ a :: b :: l2).length = l1.length + 1 := Nat.mod_eq_of_lt (by simp)
    rw [e, List.getElem?_append_right (by omega)]
    have : l1.length + 1 - l1.length = 1 := by omega
    rw [this]
    rfl
theorem nxt_mem {r : List Int} {u : Int} (h : u ∈ r) : nxt r u ∈ r := by
  obtain ⟨l1, l2, e, n, _⟩ := split_at h
  subst e
  rw [nxt_app n]
  cases l2 with
  | cons b l2 => simp
  | nil => cases l1 <;> simp
theorem nxt_ne {r : List Int} {u : Int} (h : u ∈ r) (nd : r.Nodup) (h2 : 2 ≤ r.length) : nxt r u ≠ u := by
  obtain ⟨l1, l2, e, n, _⟩ := split_at h
  subst e
  rw [nxt_app n]
  rw [List.nodup_append, List.nodup_cons] at nd
  cases l2 with
  | cons b l2 => exact fun z => nd.2.1.1 (by rw [← z]; exact List.mem_cons_self)
  | nil =>
    cases l1 with
    | nil => simp at h2
    | cons b l1 => exact fun z => n (by rw [← z]; exact List.mem_cons_self)
theorem ins_app {l1 l2 : List Int} {a p : Int} (h : a ∉ l1) : ins (l1 ++ a :: l2) a p = l1 ++ a :: p :: l2 := by
  unfold ins
  rw [idx_app h]
  have e : l1 ++ a :: l2 = (l1 ++ [a]) ++ l2 := by simp
  rw [e, List.take_left' (by simp), List.drop_left' (by simp)]
  simp
section
variable {r : List Int} {a p b : Int} (h : a ∈ r) (hp : p ∉ r)
include h hp
theorem mem_ins {x : Int} : x ∈ ins r a p ↔ x ∈ r ∨ x = p := by
  obtain ⟨l1, l2, e, n, _⟩ := split_at h
  subst e
  rw [ins_app n]
  simp only [List.mem_append, List.mem_cons]
  constructor
  · rintro (q | q | q | q)
    · exact .inl (.inl q)
    · exact .inl (.inr (.inl q))
    · exact .inr q
    · exact .inl (.inr (.inr q))
  · rintro ((q | q | q) | q)
    · exact .inl q
    · exact .inr (.inl q)
    · exact .inr (.inr (.inr q))
    · exact .inr (.inr (.inl q))
theorem nodup_ins (nd : r.Nodup) : (ins r a p).Nodup := by
  obtain ⟨l1, l2, e, n, _⟩ := split_at h
  subst e
  rw [ins_app n]
  have e2 : (l1 ++ a :: p :: l2).Perm (p :: (l1 ++ a :: l2)) := by
    have : (l1 ++ a :: p :: l2) = (l1 ++ [a]) ++ p :: l2 := by simp
    rw [this]
    have : (l1 ++ a :: l2) = (l1 ++ [a]) ++ l2 := by simp
    rw [this]
    exact List.perm_middle
  exact e2.nodup_iff.mpr (List.nodup_cons.mpr ⟨hp, nd⟩)
theorem len_ins : (ins r a p).length = r.length + 1 := by
  obtain ⟨l1, l2, e, n, _⟩ := split_at h
  subst e
  rw [ins_app n]
  simp only [List.length_append, List.length_cons]
  omega
theorem nxt_ins_a : nxt (ins r a p) a = p := by
  obtain ⟨l1, l2, e, n, _⟩ := split_at h
  subst e
  rw [ins_app n, nxt_app n]
  rfl
theorem nxt_ins_p : nxt (ins r a p) p = nxt r a := by
  obtain ⟨l1, l2, e, n, _⟩ := split_at h
  subst e
  have h1 : p ∉ l1 ++ [a] := fun z => hp (by
    rcases List.mem_append.mp z with q | q
    · exact List.mem_append_left _ q
    · exact List.mem_append_right _ (by rw [List.mem_singleton.mp q]; exact List.mem_cons_self))
  rw [ins_app n, nxt_app n]
  have e : l1 ++ a :: p :: l2 = (l1 ++ [a]) ++ p :: l2 := by simp
  rw [e, nxt_app h1]
  cases l2 with
  | cons b l2 => rfl
  | nil => cases l1 <;> rfl
theorem nxt_ins_b (hb : b ∈ r) (hn : b ≠ a) (nd : r.Nodup) : nxt (ins r a p) b = nxt r b := by
  obtain ⟨l1, l2, e, n, _⟩ := split_at h
  subst e
  rw [ins_app n]
  rw [List.nodup_append, List.nodup_cons] at nd
  have hb' : b ∈ l1 ∨ b ∈ l2 := by
    rcases List.mem_append.mp hb with q | q
    · exact .inl q
    · exact .inr ((List.mem_cons.mp q).resolve_left hn)
  have pb : p ≠ b := fun z => hp (by rw [z]; exact hb)
  rcases hb' with q | q
  · obtain ⟨m1, m2, e, n2, _⟩ := split_at q
    subst e
    have e1 : m1 ++ b :: m2 ++ a :: l2 = m1 ++ b :: (m2 ++ a :: l2) := by simp
    have e2 : m1 ++ b :: m2 ++ a :: p :: l2 = m1 ++ b :: (m2 ++ a :: p :: l2) := by simp
    rw [e1, e2, nxt_app n2, nxt_app n2]
    cases m2 <;> rfl
  · obtain ⟨m1, m2, e, n2, _⟩ := split_at q
    subst e
    have h0 : b ∉ l1 := fun z => nd.2.2 b z b (List.mem_cons_of_mem _ q) rfl
    have h1 : b ∉ l1 ++ a :: m1 := fun z => by
      rcases List.mem_append.mp z with w | w
      · exact h0 w
      · rcases List.mem_cons.mp w with w | w
        · exact hn w
        · exact n2 w
    have h2 : b ∉ l1 ++ a :: p :: m1 := fun z => by
      rcases List.mem_append.mp z with w | w
      · exact h0 w
      · rcases List.mem_cons.mp w with w | w
        · exact hn w
        · rcases List.mem_cons.mp w with w | w
          · exact pb w.symm
          · exact n2 w
    have e1 : l1 ++ a :: (m1 ++ b :: m2) = (l1 ++ a :: m1) ++ b :: m2 := by simp
    have e2 : l1 ++ a :: p :: (m1 ++ b :: m2) = (l1 ++ a :: p :: m1) ++ b :: m2 := by simp
    rw [e1, e2, nxt_app h1, nxt_app h2]
    cases m2 with
    | cons c m2 => rfl
    | nil => cases l1 <;> rfl
end
/-! ### three-cornered webs -/
structure Tri (W : WL) : Prop where
  nd : (keysOf' W).Nodup
  row : ∀ u r, rowOf W u = some r → r.Nodup ∧ u ∉ r ∧ 2 ≤ r.length
  sym : ∀ u v r, rowOf W u = some r → v ∈ r → ∃ r', rowOf W v = some r' ∧ u ∈ r'
  face : ∀ u v r r' rw, rowOf W u = some r → v ∈ r → rowOf W v = some r' → rowOf W (nxt r' u) = some rw → nxt rw v = u
def standIn (W : WL) (p x y z : Int) (rx ry rz : List Int) : WL := putRow (putRow (putRow (putRow W y (ins ry x p)) z (ins rz y p)) x (ins rx z p)) p [y, x, z]
theorem nx3 {y x z : Int} (h1 : y ≠ x) (h2 : y ≠ z) (h3 : x ≠ z) : nxt [y, x, z] y = x ∧ nxt [y, x, z] x = z ∧ nxt [y, x, z] z = y := by
  refine ⟨?_, ?_, ?_⟩
  · exact nxt_app (l1 := []) (l2 := [x, z]) (by simp)
  · exact nxt_app (l1 := [y]) (l2 := [z]) (by simp; exact fun e => h1 e.symm)
  · exact nxt_app (l1 := [y, x]) (l2 := []) (by simp; exact ⟨fun e => h2 e.symm, fun e => h3 e.symm⟩)
/-- a face's three points -/
theorem Tri.corners {W : WL} (T : Tri W) {x y : Int} {rx ry : List Int} (ex : rowOf W x = some rx) (hy : y ∈ rx) (ey : rowOf W y = some ry) : x ∈ ry ∧ ∃ rz, rowOf W (nxt ry x) = some rz ∧ nxt ry x ∈ ry ∧ y ∈ rz ∧ nxt ry x ∈ rx ∧ x ∈ rz ∧ y ≠ x ∧ y ≠ nxt ry x ∧ x ≠ nxt ry x ∧ nxt rz y = x ∧ nxt rx (nxt ry x) = y := by
  obtain ⟨ry', ey', hx⟩ := T.sym x y rx ex hy
  rw [ey] at ey'; cases ey'
  obtain ⟨n1, n2, n3⟩ := T.row x rx ex
  obtain ⟨n4, n5, n6⟩ := T.row y ry ey
  have hz := nxt_mem hx
  obtain ⟨rz, ez, hyz⟩ := T.sym y (nxt ry x) ry ey hz
  have f1 := T.face x y rx ry rz ex hy ey ez
  have hxz : x ∈ rz := by rw [← f1]; exact nxt_mem hyz
  obtain ⟨rx', ex', hzx⟩ := T.sym (nxt ry x) x rz ez hxz
  rw [ex] at ex'; cases ex'
  have f2 := T.face y (nxt ry x) ry rz rx ey hz ez (by rw [f1]; exact ex)
  exact ⟨hx, rz, ez, hz, hyz, hzx, hxz, fun e => n2 (by rw [← e]; exact hy), fun e => n5 (by rw [e]; exact hz), fun e => nxt_ne hx n4 n6 e.symm, f1, f2⟩
theorem Tri.stand {W : WL} (T : Tri W) {p x y : Int} {rx ry rz : List Int} (ex : rowOf W x = some rx) (hy : y ∈ rx) (ey : rowOf W y = some ry) (ez : rowOf W (nxt ry x) = some rz) (hp : p ∉ keysOf' W) :
    Tri (standIn W p x y (nxt ry x) rx ry rz) ∧ (∀ u, rowOf (standIn W p x y (nxt ry x) rx ry rz) u = if u = p then some [y, x, nxt ry x] else if u = x then some (ins rx (nxt ry x) p) else if u = nxt ry x then some (ins rz y p) else if u = y then some (ins ry x p) else rowOf W u) ∧ keysOf' (standIn W p x y (nxt ry x) rx ry rz) = keysOf' W ++ [p] := by
  obtain ⟨hx, rz', ez', hz, hyz, hzx, hxz, d1, d2, d3, f1, f2⟩ := T.corners ex hy ey
  rw [ez] at ez'; cases ez'
  generalize hze : nxt ry x = z at *
  have f0 : nxt ry x = z := hze
  have np : ∀ u r, rowOf W u = some r → u ≠ p ∧ p ∉ r := fun u r e => ⟨fun q => hp (by rw [← q]; exact rowOf_mem e), fun q => by
    obtain ⟨r', e', _⟩ := T.sym u p r e q
    exact hp (rowOf_mem e')⟩
  obtain ⟨px, pxr⟩ := np x rx ex
  obtain ⟨py, pyr⟩ := np y ry ey
  obtain ⟨pz, pzr⟩ := np z rz ez
  obtain ⟨nx, nx2, nx3'⟩ := T.row x rx ex
  obtain ⟨ny, ny2, ny3⟩ := T.row y ry ey
  obtain ⟨nz, nz2, nz3⟩ := T.row z rz ez
  have RO : ∀ u, rowOf (standIn W p x y z rx ry rz) u = if u = p then some [y, x, z] else if u = x then some (ins rx z p) else if u = z then some (ins rz y p) else if u = y then some (ins ry x p) else rowOf W u := fun u => by
    unfold standIn
    rw [rowOf_put, rowOf_put, rowOf_put, rowOf_put]
  obtain ⟨t1, t2, t3⟩ := nx3 d1 d2 d3
  have KO : keysOf' (standIn W p x y z rx ry rz) = keysOf' W ++ [p] := by
    have k1 : keysOf' (putRow W y (ins ry x p)) = keysOf' W := by rw [keys_put, if_pos (rowOf_mem ey)]
    have k2 : keysOf' (putRow (putRow W y (ins ry x p)) z (ins rz y p)) = keysOf' W := by rw [keys_put, k1, if_pos (rowOf_mem ez)]
    have k3 : keysOf' (putRow (putRow (putRow W y (ins ry x p)) z (ins rz y p)) x (ins rx z p)) = keysOf' W := by rw [keys_put, k2, if_pos (rowOf_mem ex)]
    unfold standIn
    rw [keys_put, k3, if_neg hp]
  have Rp : rowOf (standIn W p x y z rx ry rz) p = some [y, x, z] := by rw [RO, if_pos rfl]
  have Rx : rowOf (standIn W p x y z rx ry rz) x = some (ins rx z p) := by rw [RO, if_neg px, if_pos rfl]
  have Rz : rowOf (standIn W p x y z rx ry rz) z = some (ins rz y p) := by rw [RO, if_neg pz, if_neg (fun e => d3 e.symm), if_pos rfl]
  have Ry : rowOf (standIn W p x y z rx ry rz) y = some (ins ry x p) := by rw [RO, if_neg py, if_neg d1, if_neg d2, if_pos rfl]
  have Ro : ∀ u, u ≠ p → u ≠ x → u ≠ y → u ≠ z → rowOf (standIn W p x y z rx ry rz) u = rowOf W u := fun u h1 h2 h3 h4 => by rw [RO, if_neg h1, if_neg h2, if_neg h4, if_neg h3]
  -- an old point's new row
  have old : ∀ u r, rowOf W u = some r → ∃ r', rowOf (standIn W p x y z rx ry rz) u = some r' ∧ (∀ v, v ∈ r' ↔ v ∈ r ∨ (v = p ∧ (u = x ∨ u = y ∨ u = z))) ∧ r'.Nodup ∧ r.length ≤ r'.length ∧
      (∀ b, b ∈ r → ¬ ((u = y ∧ b = x) ∨ (u = z ∧ b = y) ∨ (u = x ∧ b = z)) → nxt r' b = nxt r b) := by
    intro u r e
    obtain ⟨up, upr⟩ := np u r e
    obtain ⟨g1, g2, g3⟩ := T.row u r e
    by_cases qx : u = x
    · subst qx
      rw [ex] at e; cases e
      refine ⟨_, Rx, fun v => by rw [mem_ins hzx pxr]; simp, nodup_ins hzx pxr nx, by rw [len_ins hzx pxr]; omega, fun b hb hn => nxt_ins_b hzx pxr hb (fun z => hn (.inr (.inr ⟨rfl, z⟩))) nx⟩
    · by_cases qy : u = y
      · subst qy
        rw [ey] at e; cases e
        refine ⟨_, Ry, fun v => by rw [mem_ins hx pyr]; simp, nodup_ins hx pyr ny, by rw [len_ins hx pyr]; omega, fun b hb hn => nxt_ins_b hx pyr hb (fun z => hn (.inl ⟨rfl, z⟩)) ny⟩
      · by_cases qz : u = z
        · subst qz
          rw [ez] at e; cases e
          refine ⟨_, Rz, fun v => by rw [mem_ins hyz pzr]; simp, nodup_ins hyz pzr nz, by rw [len_ins hyz pzr]; omega, fun b hb hn => nxt_ins_b hyz pzr hb (fun z => hn (.inr (.inl ⟨rfl, z⟩))) nz⟩
        · refine ⟨r, by rw [Ro u up qx qy qz]; exact e, fun v => by simp [qx, qy, qz], g1, Nat.le_refl _, fun b _ _ => rfl⟩
  have back : ∀ u r', u ≠ p → rowOf (standIn W p x y z rx ry rz) u = some r' → ∃ r, rowOf W u = some r := fun u r' h e => by
    have hm := rowOf_mem e
    rw [KO] at hm
    rcases List.mem_append.mp hm with q | q
    · exact mem_rowOf q
    · exact absurd (List.mem_singleton.mp q) h
  refine ⟨⟨?_, ?_, ?_, ?_⟩, RO, KO⟩
  · rw [KO]
    exact List.nodup_append.mpr ⟨T.nd, by simp, fun a ha b hb => by rw [List.mem_singleton.mp hb]; rintro rfl; exact hp ha⟩
  · intro u r' e
    by_cases q : u = p
    · subst q
      rw [Rp] at e; cases e
      refine ⟨by simp [d1, d2, d3], by simp; exact ⟨fun e => py e.symm, fun e => px e.symm, fun e => pz e.symm⟩, by simp⟩
    · obtain ⟨r, er⟩ := back u r' q e
      obtain ⟨r2, e2, m2, n2, l2, _⟩ := old u r er
      rw [e] at e2; cases e2
      obtain ⟨g1, g2, g3⟩ := T.row u r er
      refine ⟨n2, fun hm => ?_, by omega⟩
      rcases (m2 u).mp hm with w | w
      · exact g2 w
      · exact q w.1
  · intro u v r' e hv
    by_cases q : u = p
    · subst q
      rw [Rp] at e; cases e
      simp only [List.mem_cons, List.not_mem_nil, or_false] at hv
      rcases hv with rfl | rfl | rfl
      · exact ⟨_, Ry, (mem_ins hx pyr).mpr (.inr rfl)⟩
      · exact ⟨_, Rx, (mem_ins hzx pxr).mpr (.inr rfl)⟩
      · exact ⟨_, Rz, (mem_ins hyz pzr).mpr (.inr rfl)⟩
    · obtain ⟨r, er⟩ := back u r' q e
      obtain ⟨r2, e2, m2, n2, l2, _⟩ := old u r er
      rw [e] at e2; cases e2
      rcases (m2 v).mp hv with w | ⟨rfl, w⟩
      · obtain ⟨rv, ev, hu⟩ := T.sym u v r er w
        obtain ⟨rv', ev', mv', _⟩ := old v rv ev
        exact ⟨rv', ev', (mv' u).mpr (.inl hu)⟩
      · exact ⟨_, Rp, by rcases w with rfl | rfl | rfl <;> simp⟩
  · intro u v ru rv rw' eu hv ev ew
    by_cases qv : v = p
    · -- behind p
      subst qv
      rw [Rp] at ev; cases ev
      have hu : u ≠ v := fun e => by
        subst e
        rw [Rp] at eu; cases eu
        simp at hv
        rcases hv with h | h | h
        · exact py h.symm
        · exact px h.symm
        · exact pz h.symm
      obtain ⟨r, er⟩ := back u ru hu eu
      obtain ⟨r2, e2, m2, _⟩ := old u r er
      rw [eu] at e2; cases e2
      rcases (m2 v).mp hv with w | ⟨_, w⟩
      · exact absurd w (np u r er).2
      · rcases w with rfl | rfl | rfl
        · rw [t2, Rz] at ew; cases ew
          rw [nxt_ins_p hyz pzr]; exact f1
        · rw [t1, Rx] at ew; cases ew
          rw [nxt_ins_p hzx pxr]; exact f2
        · rw [t3, Ry] at ew; cases ew
          rw [nxt_ins_p hx pyr]; exact f0
    · obtain ⟨r0, er0⟩ := back v rv qv ev
      obtain ⟨rv2, ev2, mv2, nv2, lv2, xv2⟩ := old v r0 er0
      rw [ev] at ev2; cases ev2
      by_cases qu : u = p
      · subst qu
        rw [Rp] at eu; cases eu
        simp only [List.mem_cons, List.not_mem_nil, or_false] at hv
        rcases hv with rfl | rfl | rfl
        · rw [Ry] at ev; cases ev
          rw [nxt_ins_p hx pyr, f0, Rz] at ew; cases ew
          exact nxt_ins_a hyz pzr
        · rw [Rx] at ev; cases ev
          rw [nxt_ins_p hzx pxr, f2, Ry] at ew; cases ew
          exact nxt_ins_a hx pyr
        · rw [Rz] at ev; cases ev
          rw [nxt_ins_p hyz pzr, f1, Rx] at ew; cases ew
          exact nxt_ins_a hzx pxr
      · obtain ⟨r, er⟩ := back u ru qu eu
        obtain ⟨ru2, eu2, mu2, _⟩ := old u r er
        rw [eu] at eu2; cases eu2
        have hv0 : v ∈ r := by
          rcases (mu2 v).mp hv with w | w
          · exact w
          · exact absurd w.1 qv
        obtain ⟨rv', ev', hu0⟩ := T.sym u v r er hv0
        rw [er0] at ev'; cases ev'
        by_cases c : (v = y ∧ u = x) ∨ (v = z ∧ u = y) ∨ (v = x ∧ u = z)
        · rcases c with ⟨rfl, rfl⟩ | ⟨rfl, rfl⟩ | ⟨rfl, rfl⟩
          · rw [Ry] at ev; cases ev
            rw [nxt_ins_a hx pyr, Rp] at ew; cases ew
            exact t1
          · rw [Rz] at ev; cases ev
            rw [nxt_ins_a hyz pzr, Rp] at ew; cases ew
            exact t3
          · rw [Rx] at ev; cases ev
            rw [nxt_ins_a hzx pxr, Rp] at ew; cases ew
            exact t2
        · rw [xv2 u hu0 c] at ew
          have hw := nxt_mem hu0
          obtain ⟨w0, ew0, hvw⟩ := T.sym v (nxt r0 u) r0 er0 hw
          have fo := T.face u v r r0 w0 er hv0 er0 ew0
          obtain ⟨rw2, ew2, mw2, nw2, lw2, xw2⟩ := old (nxt r0 u) w0 ew0
          rw [ew] at ew2; cases ew2
          rw [xw2 v hvw ?_]
          · exact fo
          · rintro (⟨g1, rfl⟩ | ⟨g1, rfl⟩ | ⟨g1, rfl⟩)
            · -- behind u stands y, v is x
              rw [g1, ey] at ew0; cases ew0
              exact c (.inr (.inr ⟨rfl, by rw [← fo]; exact f0⟩))
            · rw [g1, ez] at ew0; cases ew0
              exact c (.inl ⟨rfl, by rw [← fo]; exact f1⟩)
            · rw [g1, ex] at ew0; cases ew0
              exact c (.inr (.inl ⟨rfl, by rw [← fo]; exact f2⟩))
/-! ### reading and writing rows -/
theorem look_rows {h : MH} {d : MV} {W : WL} {u : Int} {r : List Int} (e : dictK h d = some (rowsV W)) (q : rowOf W u = some r) : lookM h d (.int u) = some (some (.lst (r.map .int))) := by
  simp only [lookM, e, keyOf, getK_rows, q, Option.map_some]
theorem look_webs {h : MH} {d : MV} {W : WL} {u : Int} {r : List Int} (e : dictK h d = some (websV W)) (q : rowOf W u = some r) : lookM h d (.int u) = some (some (.row (r.map .int))) := by
  simp only [lookM, e, keyOf, getK_webs, q, Option.map_some]
theorem ix_rows {h : MH} {m : Nat} {W : WL} {u : Int} {r : List Int} (e : h[m]? = some (.dK (rowsV W))) (q : rowOf W u = some r) : opIx h (.ref m) (.int u) = some (.lst (r.map .int)) := by
  have e1 : dictK h (.ref m) = some (rowsV W) := by simp only [dictK, e]
  simp only [opIx, seqOf, listOf, e, look_rows e1 q]
theorem ix_rowsV {h : MH} {W : WL} {u : Int} {r : List Int} (q : rowOf W u = some r) : opIx h (.dK (rowsV W)) (.int u) = some (.lst (r.map .int)) := by
  simp only [opIx, seqOf, listOf, look_rows (h := h) (d := .dK (rowsV W)) rfl q]
theorem ix_websV {h : MH} {W : WL} {u : Int} {r : List Int} (q : rowOf W u = some r) : opIx h (.dK (websV W)) (.int u) = some (.row (r.map .int)) := by
  simp only [opIx, seqOf, listOf, look_webs (h := h) (d := .dK (websV W)) rfl q]
theorem put_rows {h : MH} {m : Nat} {W : WL} {u : Int} {r : List Int} (e : h[m]? = some (.dK (rowsV W))) (hz : W.length < szLine) : stM h (.ref m) (.int u) (.lst (r.map .int)) = some (h.set m (.dK (rowsV (putRow W u r)))) := by
  have hz' : (rowsV W).length < szLine := by simpa [rowsV] using hz
  simp only [stM, e, keyOf, hz', if_true, putM_rows]
theorem put_webs {h : MH} {m : Nat} {W : WL} {u : Int} {r : List Int} (e : h[m]? = some (.dK (websV W))) (hz : W.length < szLine) : stM h (.ref m) (.int u) (.row (r.map .int)) = some (h.set m (.dK (websV (putRow W u r)))) := by
  have hz' : (websV W).length < szLine := by simpa [websV] using hz
  simp only [stM, e, keyOf, hz', if_true, putM_webs]
theorem keysV_rows (W : WL) : (rowsV W).map (fun kv => keyV kv.1) = (keysOf' W).map .int := by
  simp [rowsV, keysOf', keyV, List.map_map, Function.comp_def]
theorem keysV_webs (W : WL) : (websV W).map (fun kv => keyV kv.1) = (keysOf' W).map .int := by
  simp [websV, keysOf', keyV, List.map_map, Function.comp_def]
theorem plain_rows : ∀ W : WL, plainK (rowsV W) = true
  | [] => rfl
  | p :: W => by simp only [rowsV, List.map_cons, plainK, plainV, plain_ints, Bool.true_and]; exact plain_rows W
theorem plain_webs : ∀ W : WL, plainK (websV W) = true
  | [] => rfl
  | p :: W => by simp only [websV, List.map_cons, plainK, plainV, plain_ints, Bool.true_and]; exact plain_webs W
theorem keys_len (W : WL) : (keysOf' W).length = W.length := by simp [keysOf']
/-! ### webs -/
structure Web (W : WL) : Prop where
  nd : (keysOf' W).Nodup
  row : ∀ u r, rowOf W u = some r → r.Nodup ∧ u ∉ r
  sym : ∀ u v r, rowOf W u = some r → v ∈ r → ∃ r', rowOf W v = some r' ∧ u ∈ r'
theorem Tri.web {W : WL} (T : Tri W) : Web W := ⟨T.nd, fun u r e => ⟨(T.row u r e).1, (T.row u r e).2.1⟩, T.sym⟩
/-- a web's rows changed, each within what it was -/
def mapRows (f : Int → List Int → List Int) (W : WL) : WL := W.map fun p => (p.1, f p.1 p.2)
theorem rowOf_map (f : Int → List Int → List Int) : ∀ (W : WL) (u : Int), rowOf (mapRows f W) u = (rowOf W u).map (f u)
  | [], u => rfl
  | p :: W, u => by
    show rowOf ((p.1, f p.1 p.2) :: mapRows f W) u = _
    rw [rowOf, rowOf, rowOf_map f W u]
    split
    · rename_i h
      have h' : p.1 = u := h
      rw [h']; rfl
    · rfl
theorem keys_map (f : Int → List Int → List Int) (W : WL) : keysOf' (mapRows f W) = keysOf' W := by simp [keysOf', mapRows, Function.comp_def]
theorem Web.thin {W : WL} (w : Web W) (P : Int → Int → Bool) (hs : ∀ u v, P u v = P v u) : Web (mapRows (fun u r => r.filter (P u)) W) := by
  refine ⟨by rw [keys_map]; exact w.nd, fun u r e => ?_, fun u v r e hv => ?_⟩
  · rw [rowOf_map] at e
    cases q : rowOf W u with
    | none => rw [q] at e; cases e
    | some r0 =>
      rw [q] at e
      cases e
      exact ⟨(w.row u r0 q).1.filter _, fun h => (w.row u r0 q).2 (List.mem_filter.mp h).1⟩
  · rw [rowOf_map] at e
    cases q : rowOf W u with
    | none => rw [q] at e; cases e
    | some r0 =>
      rw [q] at e
      cases e
      obtain ⟨h1, h2⟩ := List.mem_filter.mp hv
      obtain ⟨r', e', hu⟩ := w.sym u v r0 q h1
      refine ⟨_, by rw [rowOf_map, e']; rfl, List.mem_filter.mpr ⟨hu, by rw [hs]; exact h2⟩⟩
theorem Web.perm {W V : WL} (w : Web W) (f : Int → List Int → List Int) (hp : V.Perm W) (hf : ∀ u r, (f u r).Perm r) : Web (mapRows f V) := by
  have nd : (keysOf' V).Nodup := (hp.map _).nodup_iff.mpr w.nd
  have ro : ∀ u r, rowOf V u = some r ↔ rowOf W u = some r := fun u r => ⟨fun e => rowOf_of_mem w.nd (hp.mem_iff.mp (mem_of_rowOf e)), fun e => rowOf_of_mem nd (hp.mem_iff.mpr (mem_of_rowOf e))⟩
  refine ⟨by rw [keys_map]; exact nd, fun u r e => ?_, fun u v r e hv => ?_⟩
  · rw [rowOf_map] at e
    cases q : rowOf V u with
    | none => rw [q] at e; cases e
    | some r0 =>
      rw [q] at e
      cases e
      obtain ⟨h1, h2⟩ := w.row u r0 ((ro u r0).mp q)
      exact ⟨(hf u r0).nodup_iff.mpr h1, fun h => h2 ((hf u r0).mem_iff.mp h)⟩
  · rw [rowOf_map] at e
    cases q : rowOf V u with
    | none => rw [q] at e; cases e
    | some r0 =>
      rw [q] at e
      cases e
      obtain ⟨r', e', hu⟩ := w.sym u v r0 ((ro u r0).mp q) ((hf u r0).mem_iff.mp hv)
      exact ⟨_, by rw [rowOf_map, (ro v r').mpr e']; rfl, (hf v r').mem_iff.mpr hu⟩
theorem Web.join {W V : WL} (w : Web W) (v : Web V) (hd : ∀ u, u ∈ keysOf' W → u ∉ keysOf' V) : Web (W ++ V) := by
  have k : keysOf' (W ++ V) = keysOf' W ++ keysOf' V := by simp [keysOf']
  have ro : ∀ u r, rowOf (W ++ V) u = some r ↔ rowOf W u = some r ∨ rowOf V u = some r := fun u r => by
    rw [rowOf_app]
    cases q : rowOf W u with
    | none => simp
    | some r0 =>
      have : rowOf V u = none := rowOf_none (hd u (rowOf_mem q))
      simp [this]
  refine ⟨by rw [k]; exact List.nodup_append.mpr ⟨w.nd, v.nd, fun a ha b hb e => hd a ha (by rw [e]; exact hb)⟩, fun u r e => ?_, fun u x r e hx => ?_⟩
  · rcases (ro u r).mp e with q | q
    · exact w.row u r q
    · exact v.row u r q
  · rcases (ro u r).mp e with q | q
    · obtain ⟨r', e', h⟩ := w.sym u x r q hx
      exact ⟨r', (ro x r').mpr (.inl e'), h⟩
    · obtain ⟨r', e', h⟩ := v.sym u x r q hx
      exact ⟨r', (ro x r').mpr (.inr e'), h⟩
theorem web_nil : Web [] := ⟨List.nodup_nil, fun u r e => by simp [rowOf] at e, fun u v r e => by simp [rowOf] at e⟩
theorem rowOf_empties : ∀ (ns : List Int) (u : Int) (r : List Int), rowOf (ns.map fun p => (p, [])) u = some r → r = []
  | [], u, r, e => by simp [rowOf] at e
  | p :: ns, u, r, e => by
    rw [List.map_cons, rowOf] at e
    split at e
    · cases e; rfl
    · exact rowOf_empties ns u r e
theorem web_empties {ns : List Int} (nd : ns.Nodup) : Web (ns.map fun p => (p, [])) := by
  refine ⟨by simpa [keysOf', Function.comp_def] using nd, fun u r e => ?_, fun u v r e hv => ?_⟩
  · rw [rowOf_empties ns u r e]; exact ⟨List.nodup_nil, by simp⟩
  · rw [rowOf_empties ns u r e] at hv; cases hv
theorem nx2 {b c : Int} (h : b ≠ c) : nxt [b, c] b = c ∧ nxt [b, c] c = b := ⟨nxt_app (l1 := []) (l2 := [c]) (by simp), nxt_app (l1 := [b]) (l2 := []) (by simp; exact fun e => h e.symm)⟩
def tri0 (a b c : Int) : WL := [(a, [b, c]), (b, [c, a]), (c, [a, b])]
theorem tri0_ok {a b c : Int} (h1 : a ≠ b) (h2 : a ≠ c) (h3 : b ≠ c) : Tri (tri0 a b c) := by
  have ro : ∀ u r, rowOf (tri0 a b c) u = some r ↔ (u = a ∧ r = [b, c]) ∨ (u = b ∧ r = [c, a]) ∨ (u = c ∧ r = [a, b]) := fun u r => by
    simp only [tri0, rowOf]
    by_cases q1 : a = u
    · subst q1; simp [h1, h2]; exact eq_comm
    · by_cases q2 : b = u
      · subst q2; simp [h1, h3, Ne.symm h1]; exact eq_comm
      · by_cases q3 : c = u
        · subst q3; simp [h2, h3, Ne.symm h2, Ne.symm h3]; exact eq_comm
        · have : ¬ u = a := fun z => q1 z.symm
          have : ¬ u = b := fun z => q2 z.symm
          have : ¬ u = c := fun z => q3 z.symm
          simp [*]
  obtain ⟨a1, a2⟩ := nx2 h3
  obtain ⟨b1, b2⟩ := nx2 (Ne.symm h2)
  obtain ⟨c1, c2⟩ := nx2 h1
  refine ⟨by simp [keysOf', tri0, h1, h2, h3], fun u r e => ?_, fun u v r e hv => ?_, fun u v r r' rw' e hv ev ew => ?_⟩
  · rcases (ro u r).mp e with ⟨rfl, rfl⟩ | ⟨rfl, rfl⟩ | ⟨rfl, rfl⟩
    · simp [h1, h2, h3]
    · simp [h1, h2, h3, Ne.symm h1, Ne.symm h2]
    · simp [h1, h2, h3, Ne.symm h2, Ne.symm h3]
  · rcases (ro u r).mp e with ⟨rfl, rfl⟩ | ⟨rfl, rfl⟩ | ⟨rfl, rfl⟩ <;> simp only [List.mem_cons, List.not_mem_nil, or_false] at hv <;> rcases hv with rfl | rfl
    · exact ⟨_, (ro _ _).mpr (.inr (.inl ⟨rfl, rfl⟩)), by simp⟩
    · exact ⟨_, (ro _ _).mpr (.inr (.inr ⟨rfl, rfl⟩)), by simp⟩
    · exact ⟨_, (ro _ _).mpr (.inr (.inr ⟨rfl, rfl⟩)), by simp⟩
    · exact ⟨_, (ro _ _).mpr (.inl ⟨rfl, rfl⟩), by simp⟩
    · exact ⟨_, (ro _ _).mpr (.inl ⟨rfl, rfl⟩), by simp⟩
    · exact ⟨_, (ro _ _).mpr (.inr (.inl ⟨rfl, rfl⟩)), by simp⟩
  · have ra : rowOf (tri0 a b c) a = some [b, c] := (ro _ _).mpr (.inl ⟨rfl, rfl⟩)
    have rb : rowOf (tri0 a b c) b = some [c, a] := (ro _ _).mpr (.inr (.inl ⟨rfl, rfl⟩))
    have rc : rowOf (tri0 a b c) c = some [a, b] := (ro _ _).mpr (.inr (.inr ⟨rfl, rfl⟩))
    rcases (ro u r).mp e with ⟨rfl, rfl⟩ | ⟨rfl, rfl⟩ | ⟨rfl, rfl⟩ <;> simp only [List.mem_cons, List.not_mem_nil, or_false] at hv <;> rcases hv with rfl | rfl
    · rw [rb] at ev; cases ev; rw [b2, rc] at ew; cases ew; exact c2
    · rw [rc] at ev; cases ev; rw [c1, rb] at ew; cases ew; exact b1
    · rw [rc] at ev; cases ev; rw [c2, ra] at ew; cases ew; exact a2
    · rw [ra] at ev; cases ev; rw [a1, rc] at ew; cases ew; exact c1
    · rw [ra] at ev; cases ev; rw [a2, rb] at ew; cases ew; exact b2
    · rw [rb] at ev; cases ev; rw [b1, ra] at ew; cases ew; exact a1
theorem step_inj {b y i j : Int} (hy : y = 1 ∨ y = 3 ∨ y = 7 ∨ y = 9 ∨ y = 11 ∨ y = 13 ∨ y = 271 ∨ y = 389 ∨ y = 613 ∨ y = 997) (hi : 0 ≤ i ∧ i < 1000) (hj : 0 ≤ j ∧ j < 1000) (e : (b + i * y) % 1000 = (b + j * y) % 1000) : i = j := by
  have h2 : (1000 : Int) ∣ (b + i * y) - (b + j * y) := Int.dvd_of_emod_eq_zero (by rw [Int.sub_emod, e, Int.sub_self]; rfl)
  obtain ⟨m, hm⟩ := h2
  have h3 : (i - j) * y = 1000 * m := by rw [Int.sub_mul]; omega
  have key : ∀ z t : Int, y * z = 1 + 1000 * t → i = j := fun z t q => by
    have h4 : (i - j) * (y * z) = 1000 * (m * z) := by rw [← Int.mul_assoc, h3, Int.mul_assoc]
    rw [q, Int.mul_add, Int.mul_one] at h4
    have h5 : (i - j) * (1000 * t) = 1000 * ((i - j) * t) := by rw [← Int.mul_assoc, Int.mul_comm (i - j) 1000, Int.mul_assoc]
    rw [h5] at h4
    omega
  rcases hy with rfl | rfl | rfl | rfl | rfl | rfl | rfl | rfl | rfl | rfl
  · exact key 1 0 (by decide)
  · exact key 667 2 (by decide)
  · exact key 143 1 (by decide)
  · exact key 889 8 (by decide)
  · exact key 91 1 (by decide)
  · exact key 77 1 (by decide)
  · exact key 631 171 (by decide)
  · exact key 509 198 (by decide)
  · exact key 677 415 (by decide)
  · exact key 333 332 (by decide)
theorem few : ∀ (n : Nat) (r : List Int), r.Nodup → (∀ v ∈ r, 0 ≤ v ∧ v < n) → r.length ≤ n
  | 0, r, _, h => by
    cases r with
    | nil => simp
    | cons x r => have := h x List.mem_cons_self; omega
  | n + 1, r, nd, h => by
    have h1 := few n (r.erase (n : Int)) (nd.erase _) (fun v hv => by
      have h2 := h v (List.mem_of_mem_erase hv)
      have h3 : v ≠ (n : Int) := fun e => by
        rw [e] at hv
        exact (List.Nodup.not_mem_erase nd) hv
      omega)
    by_cases q : (n : Int) ∈ r
    · rw [List.length_erase_of_mem q] at h1; omega
    · rw [List.erase_of_not_mem q] at h1; omega
theorem Web.len {W : WL} (w : Web W) (hn : ∀ u ∈ keysOf' W, 0 ≤ u ∧ u < 1000) {u : Int} {r : List Int} (e : rowOf W u = some r) : r.length ≤ 1000 :=
  few 1000 r (w.row u r e).1 fun v hv => by
    obtain ⟨r', e', _⟩ := w.sym u v r e hv
    exact hn v (rowOf_mem e')
theorem keys_app (W V : WL) : keysOf' (W ++ V) = keysOf' W ++ keysOf' V := by simp [keysOf']
theorem put_app {W : WL} {u : Int} {r : List Int} (h : u ∉ keysOf' W) : putRow W u r = W ++ [(u, r)] := by
  unfold putRow
  rw [rowOf_none h]
  rfl
theorem merge_rows : ∀ (V W : WL), (keysOf' V).Nodup → (∀ u ∈ keysOf' V, u ∉ keysOf' W) → mergeM (rowsV W) (rowsV V) = rowsV (W ++ V)
  | [], W, _, _ => by simp [rowsV, mergeM]
  | (u, r) :: V, W, nd, h => by
    have nd' : u ∉ keysOf' V ∧ (keysOf' V).Nodup := by simpa [keysOf'] using nd
    have e : mergeM (rowsV W) (rowsV ((u, r) :: V)) = mergeM (putM (rowsV W) (.inl u) (.lst (r.map .int))) (rowsV V) := rfl
    rw [e, putM_rows, put_app (h u (by simp [keysOf'])), merge_rows V (W ++ [(u, r)]) nd'.2 (fun x hx => by
      rw [keys_app]
      intro hm
      rcases List.mem_append.mp hm with q | q
      · exact h x (by simp [keysOf'] at hx ⊢; exact .inr hx) q
      · have : x = u := by simpa [keysOf'] using q
        exact nd'.1 (by rw [← this]; exact hx))]
    simp
/-! ### dicts of what was seen -/
/-- a web's keys asked for -/
theorem in_webs (h : MH) (W : WL) (p : Int) : opIn h (.int p) (.dK (websV W)) = some (.bl (decide (p ∈ keysOf' W))) := by
  have e1 : lookM h (.dK (websV W)) (.int p) = some ((rowOf W p).map fun r => .row (r.map .int)) := by simp only [lookM, dictK, keyOf, getK_webs]
  simp only [opIn, seqOf, listOf, e1, Option.map_some]
  have := rowOf_some W p
  cases q : rowOf W p with
  | none => rw [q] at this; simp at this; simp [this]
  | some r => rw [q] at this; simp at this; simp [this]
theorem isD_rints (n : Nat) (xs : List Int) : isD (n + 1) (.row (xs.map .int)) = true := by simp only [isD]; exact isDs_ints n xs
theorem isDs_webs : ∀ (W : WL), dataKs (websV W) = true
  | [] => rfl
  | p :: W => by
    have ih := isDs_webs W
    unfold dataKs websV at ih ⊢
    rw [List.map_cons, List.all_cons, isD_rints 49, ih]
    rfl
theorem eqD_rints (xs ys : List Int) : eqD (.row (xs.map .int)) (.row (ys.map .int)) = (xs == ys) := by simp only [eqD, eqDs_ints]
theorem eqKs_webs {W : WL} (nd : (keysOf' W).Nodup) : eqKs (websV W) (websV W) = true := by
  unfold eqKs
  rw [beq_self_eq_true, Bool.true_and, List.all_eq_true]
  intro kv hm
  obtain ⟨p, hp, rfl⟩ := List.mem_map.mp hm
  have := rowOf_of_mem nd (show (p.1, p.2) ∈ W from hp)
  simp only [getK_webs, this, Option.map_some, eqD_rints, beq_self_eq_true]
theorem ne_webs (h : MH) {W : WL} (nd : (keysOf' W).Nodup) : opNe h (.dK (websV W)) (.dK (websV W)) = some (.bl false) := by
  simp only [opNe, dictK, isDs_webs, Bool.and_self, if_true, eqKs_webs nd]; rfl
theorem ints_of_map : ∀ xs : List Int, intsOf (xs.map .int) = some xs
  | [] => rfl
  | x :: xs => by rw [List.map_cons, intsOf, ints_of_map xs]; rfl
theorem sortI_perm (xs : List Int) : (sortI xs).Perm xs := List.mergeSort_perm _ _
theorem sortI_sorted (xs : List Int) : (sortI xs).Pairwise (· ≤ ·) := by
  have := List.pairwise_mergeSort (le := fun x y : Int => decide (x ≤ y)) (fun a b c h1 h2 => by simp at *; omega) (fun a b => by simp; omega) xs
  exact this.imp fun h => by simpa using h
theorem sorted_tup (h : MH) (xs : List Int) : fSorted h [.tup (xs.map .int)] = some (.lst ((sortI xs).map .int)) := by
  simp only [fSorted, seqOf, ints_of_map]
theorem sorted_lst (h : MH) (xs : List Int) : fSorted h [.lst (xs.map .int)] = some (.lst ((sortI xs).map .int)) := by
  simp only [fSorted, seqOf, listOf, ints_of_map]
theorem keysS_webs (h : MH) (W : WL) : fKeysS h (.dK (websV W)) = some (.lst ((sortI (keysOf' W)).map .int)) := by
  simp only [fKeysS, dictK, keysV_webs, ints_of_map, Option.map_some]
theorem keysT_webs (h : MH) (W : WL) : fKeysT h (.dK (websV W)) = some (.tup ((keysOf' W).map .int)) := by
  simp only [fKeysT, dictK, keysV_webs, Option.map_some]
theorem keysL_webs (h : MH) (W : WL) : fKeys h (.dK (websV W)) = some (.lst ((keysOf' W).map .int)) := by
  simp only [fKeys, dictK, keysV_webs, Option.map_some]
theorem take_snoc {α : Type} {W : List α} {i : Nat} {p : α} (e : W[i]? = some p) : W.take (i + 1) = W.take i ++ [p] := by rw [List.take_add_one, e]; rfl
/-! ### dicts by their keys -/
def mapV (ks : List Int) (f : Int → MV) : List (MK × MV) := ks.map fun p => (.inl p, f p)
theorem getK_mapV (f : Int → MV) : ∀ (ks : List Int) (p : Int), getK (mapV ks f) (.inl p) = if p ∈ ks then some (f p) else none
  | [], p => by simp [mapV, getK_nil]
  | x :: ks, p => by
    have ih := getK_mapV f ks p
    unfold mapV at ih ⊢
    rw [List.map_cons, getK_cons, ih]
    by_cases q : x = p
    · subst q; simp
    · have : ¬ p = x := fun z => q z.symm
      rw [if_neg (fun z => q (Sum.inl.inj z))]
      simp [this]
theorem any_mapV {f : Int → MV} {ks : List Int} {p : Int} (hp : p ∉ ks) : ((mapV ks f).any fun kv => decide (kv.1 = .inl p)) = false := by
  rw [List.any_eq_false]
  intro kv hk
  obtain ⟨x, hx, rfl⟩ := List.mem_map.mp hk
  have : x ≠ p := fun z => hp (by rw [← z]; exact hx)
  simpa using this
theorem putM_mapV {f : Int → MV} {ks : List Int} {p : Int} {v : MV} (hp : p ∉ ks) : putM (mapV ks f) (.inl p) v = mapV ks f ++ [(.inl p, v)] := by
  unfold putM
  rw [any_mapV hp]
  rfl
theorem mapV_snoc (f : Int → MV) (ks : List Int) (p : Int) : mapV (ks ++ [p]) f = mapV ks f ++ [(.inl p, f p)] := by simp [mapV]
theorem put_mapV {h : MH} {m : Nat} {ks : List Int} {f : Int → MV} {p : Int} {v : MV} (e : h[m]? = some (.dK (mapV ks f))) (hp : p ∉ ks) (hz : ks.length < szLine) : stM h (.ref m) (.int p) v = some (h.set m (.dK (mapV ks f ++ [(.inl p, v)]))) := by
  have hz' : (mapV ks f).length < szLine := by simpa [mapV] using hz
  simp only [stM, e, keyOf, hz', if_true, putM_mapV hp]
theorem plain_mapV {f : Int → MV} (hf : ∀ p, plainV (f p) = true) : ∀ ks : List Int, plainK (mapV ks f) = true
  | [] => rfl
  | p :: ks => by simp only [mapV, List.map_cons, plainK, hf, Bool.true_and]; exact plain_mapV hf ks
/-! ### lists of ints -/
/-! ### dicts of int keys, any values -/
def dictI (D : List (Int × MV)) : List (MK × MV) := D.map fun p => (.inl p.1, p.2)
theorem websI (W : WL) : websV W = dictI (W.map fun p => (p.1, .row (p.2.map .int))) := by simp [websV, dictI, Function.comp_def]
theorem getK_dictI : ∀ {D : List (Int × MV)} {p : Int} {v : MV}, (D.map (·.1)).Nodup → (p, v) ∈ D → getK (dictI D) (.inl p) = some v
  | (q, u) :: D, p, v, nd, h => by
    obtain ⟨n1, n2⟩ := List.nodup_cons.mp nd
    unfold dictI
    rw [List.map_cons, getK_cons]
    rcases List.mem_cons.mp h with z | z
    · cases z; rw [if_pos rfl]
    · have : q ≠ p := fun w => n1 (by rw [w]; exact List.mem_map.mpr ⟨(p, v), z, rfl⟩)
      rw [if_neg (fun w => this (Sum.inl.inj w))]
      exact getK_dictI n2 z
theorem ix_dictI {h : MH} {D : List (Int × MV)} {p : Int} {v : MV} (nd : (D.map (·.1)).Nodup) (hp : (p, v) ∈ D) : opIx h (.dK (dictI D)) (.int p) = some v := by
  simp only [opIx, seqOf, listOf, lookM, dictK, keyOf, getK_dictI nd hp]
theorem put_dictI {h : MH} {m : Nat} {D : List (Int × MV)} {p : Int} {v : MV} (e : h[m]? = some (.dK (dictI D))) (hp : p ∉ D.map (·.1)) (hz : D.length < szLine) : stM h (.ref m) (.int p) v = some (h.set m (.dK (dictI (D ++ [(p, v)])))) := by
  have hz' : (dictI D).length < szLine := by simpa [dictI] using hz
  have e2 : putM (dictI D) (.inl p) v = dictI (D ++ [(p, v)]) := by
    unfold putM
    have : ((dictI D).any fun kv => decide (kv.1 = .inl p)) = false := by
      rw [List.any_eq_false]
      intro kv hk
      obtain ⟨x, hx, rfl⟩ := List.mem_map.mp hk
      have : x.1 ≠ p := fun z => hp (List.mem_map.mpr ⟨x, hx, z⟩)
      simpa using this
    rw [this]
    simp [dictI]
  simp only [stM, e, keyOf, hz', if_true, e2]
theorem keysV_dictI (D : List (Int × MV)) : (dictI D).map (fun kv => keyV kv.1) = (D.map (·.1)).map .int := by simp [dictI, keyV, Function.comp_def]
theorem plain_dictI : ∀ {D : List (Int × MV)}, (∀ p ∈ D, plainV p.2 = true) → plainK (dictI D) = true
  | [], _ => rfl
  | p :: D, h => by
    have := plain_dictI (D := D) fun q hq => h q (List.mem_cons_of_mem _ hq)
    unfold dictI at this ⊢
    simp only [List.map_cons, plainK, h p List.mem_cons_self, this, Bool.and_self]
theorem merge_mapV (f : Int → MV) : ∀ (ks A : List Int), ks.Nodup → (∀ p ∈ ks, p ∉ A) → mergeM (mapV A f) (mapV ks f) = mapV (A ++ ks) f
  | [], A, _, _ => by simp [mapV, mergeM]
  | p :: ks, A, nd, h => by
    obtain ⟨n1, n2⟩ := List.nodup_cons.mp nd
    have e : mergeM (mapV A f) (mapV (p :: ks) f) = mergeM (putM (mapV A f) (.inl p) (f p)) (mapV ks f) := rfl
    rw [e, putM_mapV (h p List.mem_cons_self), ← mapV_snoc, merge_mapV f ks (A ++ [p]) n2 (fun q hq hm => by
      rcases List.mem_append.mp hm with z | z
      · exact h q (List.mem_cons_of_mem _ hq) z
      · exact n1 (by rw [← List.mem_singleton.mp z]; exact hq))]
    simp
theorem pairs_mapV (f : Int → MV) : ∀ ks : List Int, pairsK (ks.map fun p => .tup [.int p, f p]) = some (mapV ks f)
  | [] => rfl
  | p :: ks => by
    rw [List.map_cons, pairsK]
    simp only [keyOf, pairs_mapV f ks]
    rfl
end Ew
end

section
set_option linter.all false
set_option maxRecDepth 100000
/-! EwX: steps through the machine's bodies. -/
namespace Ew
open PySem (Str)
/-! ### sorted by a lambda -/
/-! ### pairs of ints -/
theorem lexLe_anti' {p q : Int × Int} (h1 : lexLe p q = true) (h2 : lexLe q p = true) : p = q := by
  unfold lexLe at h1 h2
  simp only [Bool.or_eq_true, Bool.and_eq_true, decide_eq_true_eq] at h1 h2
  exact Prod.ext (by omega) (by omega)
theorem sortP_eq : ∀ {a b : List (Int × Int)}, a.Perm b → a.Pairwise (fun x y => lexLe x y = true) → b.Pairwise (fun x y => lexLe x y = true) → a = b
  | [], b, h, _, _ => by rw [List.nil_perm.mp h]
  | x :: a, [], h, _, _ => by have := List.perm_nil.mp h; cases this
  | x :: a, y :: b, h, ha, hb => by
    obtain ⟨ha1, ha2⟩ := List.pairwise_cons.mp ha
    obtain ⟨hb1, hb2⟩ := List.pairwise_cons.mp hb
    have e : x = y := by
      have m1 : x ∈ y :: b := h.mem_iff.mp List.mem_cons_self
      have m2 : y ∈ x :: a := h.mem_iff.mpr List.mem_cons_self
      rcases List.mem_cons.mp m1 with q | q
      · exact q
      · rcases List.mem_cons.mp m2 with q2 | q2
        · exact q2.symm
        · exact lexLe_anti' (ha1 y q2) (hb1 x q)
    subst e
    rw [sortP_eq (List.Perm.cons_inv h) ha2 hb2]
theorem srtP_perm (ps : List (Int × Int)) : (sortP ps).Perm ps := List.mergeSort_perm _ _
theorem srtP_sorted (ps : List (Int × Int)) : (sortP ps).Pairwise fun x y => lexLe x y = true := by
  unfold sortP
  refine List.pairwise_mergeSort (fun a b c h1 h2 => ?_) (fun a b => ?_) ps
  · unfold lexLe at h1 h2 ⊢
    simp only [Bool.or_eq_true, Bool.and_eq_true, decide_eq_true_eq] at h1 h2 ⊢
    omega
  · unfold lexLe
    simp only [Bool.or_eq_true, Bool.and_eq_true, decide_eq_true_eq]
    omega
theorem plain_pairs : ∀ L : List (Int × Int), plainL (L.map pairV) = true
  | [] => rfl
  | p :: L => by
    have := plain_pairs L
    simp only [List.map_cons, plainL, plainV, pairV, Bool.and_true, Bool.true_and] at this ⊢
    exact this
theorem isDs_pairs (n : Nat) : ∀ L : List (Int × Int), isDs (n + 1) (L.map pairV) = true
  | [] => rfl
  | p :: L => by
    have := isDs_pairs n L
    simp only [List.map_cons, isDs, this, pairV, isD, Bool.and_self]
theorem eqD_pair (p q : Int × Int) : eqD (pairV p) (pairV q) = decide (p = q) := by
  simp only [pairV, eqD, eqDs, Bool.and_true]
  rw [Bool.eq_iff_iff]
  simp only [Bool.and_eq_true, beq_iff_eq, decide_eq_true_eq, Prod.ext_iff]
theorem eqDs_pairs : ∀ L M : List (Int × Int), eqDs (L.map pairV) (M.map pairV) = decide (L = M)
  | [], [] => rfl
  | [], _ :: _ => by simp [eqDs]
  | _ :: _, [] => by simp [eqDs]
  | p :: L, q :: M => by
    simp only [List.map_cons, eqDs, eqD_pair, eqDs_pairs L M]
    rw [Bool.eq_iff_iff]
    simp only [Bool.and_eq_true, decide_eq_true_eq, List.cons.injEq]
theorem ne_pairs {h : MH} (L M : List (Int × Int)) : opNe h (.lst (L.map pairV)) (.lst (M.map pairV)) = some (.bl (!decide (L = M))) := by
  simp only [opNe, dictK, opNe0, rdM, eqM, isD, isDs_pairs, Bool.and_self, if_true, eqD, eqDs_pairs, Option.map_some]
theorem pairsI_map : ∀ L : List (Int × Int), pairsI (L.map pairV) = some L
  | [] => rfl
  | p :: L => by
    have := pairsI_map L
    simp only [List.map_cons, pairV] at this ⊢
    simp only [pairsI, this, Option.map_some]
theorem sorted_pairs (h : MH) (L : List (Int × Int)) : fSorted h [.lst (L.map pairV)] = some (.lst ((sortP L).map pairV)) := by
  cases L with
  | nil => simp [fSorted, seqOf, listOf, intsOf, sortI, sortP]
  | cons p L =>
    have e1 : intsOf ((p :: L).map pairV) = none := by simp only [List.map_cons, pairV, intsOf]
    simp only [fSorted, seqOf, listOf, e1, pairsI_map, Option.map_some]
/-! ### rows' slices -/
/-! ### lists of rows -/
theorem notin_webs (h : MH) (W : WL) (p : Int) : opNotIn h (.int p) (.dK (websV W)) = some (.bl (!decide (p ∈ keysOf' W))) := by
  have e := in_webs h W p
  simp only [opIn, opNotIn, seqOf, listOf] at e ⊢
  cases q : lookM h (.dK (websV W)) (.int p) with
  | none => rw [q] at e; cases e
  | some o =>
    rw [q] at e
    simp only [Option.map_some, Option.some.injEq, MV.bl.injEq] at e ⊢
    rw [e]
/-! ### walks over a cell's list that stays as it is -/
def rowsAt (W : WL) (u : Int) : List Int := (rowOf W u).getD []
theorem rowsAt_of {W : WL} {u : Int} {r : List Int} (e : rowOf W u = some r) : rowsAt W u = r := by unfold rowsAt; rw [e]; rfl
end Ew
end

section
set_option linter.all false
set_option maxRecDepth 100000
/-! EwZ: what a run ends with, by rules of one step each. -/
namespace Ew
open PySem (Str)
def Wp (o : Option (Fl × SM × MH)) (Q : Fl → SM → MH → Prop) : Prop := ∃ f s h, o = some (f, s, h) ∧ Q f s h
def We (o : Option (MV × MH)) (Q : MV → MH → Prop) : Prop := ∃ v h, o = some (v, h) ∧ Q v h
def Wt (o : Option (Bool × MH)) (Q : Bool → MH → Prop) : Prop := ∃ v h, o = some (v, h) ∧ Q v h
def Wa (o : Option (List MV × MH)) (Q : List MV → MH → Prop) : Prop := ∃ v h, o = some (v, h) ∧ Q v h
def Wv (o : Option MV) (Q : MV → Prop) : Prop := ∃ v, o = some v ∧ Q v
def Wm (o : Option MH) (Q : MH → Prop) : Prop := ∃ v, o = some v ∧ Q v
def Wg (o : Option (SM × MH)) (Q : SM → MH → Prop) : Prop := ∃ s h, o = some (s, h) ∧ Q s h
def Wi (o : Option (MI × MH)) (Q : MI → MH → Prop) : Prop := ∃ v h, o = some (v, h) ∧ Q v h
def Wo (o : Option (Option Int × MH)) (Q : Option Int → MH → Prop) : Prop := ∃ v h, o = some (v, h) ∧ Q v h
theorem wp_of {o : Option (Fl × SM × MH)} {f : Fl} {s : SM} {h : MH} {Q : Fl → SM → MH → Prop} (e : o = some (f, s, h)) (q : Q f s h) : Wp o Q := ⟨_, _, _, e, q⟩
theorem we_of {o : Option (MV × MH)} {v : MV} {h : MH} {Q : MV → MH → Prop} (e : o = some (v, h)) (q : Q v h) : We o Q := ⟨_, _, e, q⟩
theorem wt_of {o : Option (Bool × MH)} {v : Bool} {h : MH} {Q : Bool → MH → Prop} (e : o = some (v, h)) (q : Q v h) : Wt o Q := ⟨_, _, e, q⟩
theorem wa_of {o : Option (List MV × MH)} {v : List MV} {h : MH} {Q : List MV → MH → Prop} (e : o = some (v, h)) (q : Q v h) : Wa o Q := ⟨_, _, e, q⟩
theorem wv_of {o : Option MV} {v : MV} {Q : MV → Prop} (e : o = some v) (q : Q v) : Wv o Q := ⟨_, e, q⟩
theorem wm_of {o : Option MH} {v : MH} {Q : MH → Prop} (e : o = some v) (q : Q v) : Wm o Q := ⟨_, e, q⟩
theorem wg_of {o : Option (SM × MH)} {v : SM} {h : MH} {Q : SM → MH → Prop} (e : o = some (v, h)) (q : Q v h) : Wg o Q := ⟨_, _, e, q⟩
theorem wi_of {o : Option (MI × MH)} {v : MI} {h : MH} {Q : MI → MH → Prop} (e : o = some (v, h)) (q : Q v h) : Wi o Q := ⟨_, _, e, q⟩
theorem we_mono {o : Option (MV × MH)} {P Q : MV → MH → Prop} (w : We o P) (k : ∀ v h, P v h → Q v h) : We o Q := by
  obtain ⟨f, h, e, p⟩ := w; exact ⟨f, h, e, k _ _ p⟩
theorem we_eq {o : Option (MV × MH)} {v : MV} {h : MH} (w : We o fun v' h' => v' = v ∧ h' = h) : o = some (v, h) := by
  obtain ⟨f, s, e, rfl, rfl⟩ := w; exact e
/-! ### branches -/
def kB (k : Bool) (A B : Prop) : Prop := if k = true then A else B
theorem kB_t {A B : Prop} (a : A) : kB true A B := by unfold kB; rw [if_pos rfl]; exact a
theorem kB_f {A B : Prop} (b : B) : kB false A B := by unfold kB; rw [if_neg Bool.noConfusion]; exact b
theorem br_t {k : Bool} {A B : Prop} (e : k = true) (a : A) : kB k A B := by subst e; exact kB_t a
theorem br_f {k : Bool} {A B : Prop} (e : k = false) (b : B) : kB k A B := by subst e; exact kB_f b
theorem br_by {k : Bool} {A B : Prop} (a : k = true → A) (b : k = false → B) : kB k A B := by cases k; exact kB_f (b rfl); exact kB_t (a rfl)
theorem br_dec {p : Prop} [Decidable p] {A B : Prop} (a : p → A) (b : ¬ p → B) : kB (decide p) A B := br_by (fun e => a (of_decide_eq_true e)) fun e => b (of_decide_eq_false e)
/-- a truth as a value -/
def kV (v : MV) (R : Bool → Prop) : Prop := ∃ k, v = .bl k ∧ R k
theorem kV_bl {k : Bool} {R : Bool → Prop} (r : R k) : kV (.bl k) R := ⟨k, rfl, r⟩
theorem kB_nt {A B : Prop} (b : B) : kB (!true) A B := kB_f b
theorem kB_nf {A B : Prop} (a : A) : kB (!false) A B := kB_t a
theorem kB_tt {A B : Prop} (a : A) : kB (decide (true = true)) A B := kB_t a
theorem kB_ff {A B : Prop} (a : A) : kB (decide (false = false)) A B := kB_t a
theorem kB_tf {A B : Prop} (b : B) : kB (decide (true = false)) A B := kB_f b
theorem kB_ft {A B : Prop} (b : B) : kB (decide (false = true)) A B := kB_f b
theorem kB_ntt {A B : Prop} (a : B) : kB (!decide (true = true)) A B := kB_f a
theorem kB_nff {A B : Prop} (a : B) : kB (!decide (false = false)) A B := kB_f a
theorem kB_ntf {A B : Prop} (b : A) : kB (!decide (true = false)) A B := kB_t b
theorem kB_nft {A B : Prop} (b : A) : kB (!decide (false = true)) A B := kB_t b
/-! ### statements -/
def kS (b : XS) (Q : Fl → SM → MH → Prop) (f : Fl) (s : SM) (h : MH) : Prop := match f with
  | .nx => Wp (b s h) Q
  | f => Q f s h
section
variable {a b : XS} {e o k : XE} {s : SM} {h : MH} {Q : Fl → SM → MH → Prop} {R : MV → MH → Prop} {c d : XT}
theorem kS_nx (w : Wp (b s h) Q) : kS b Q .nx s h := w
theorem kS_rt {v : MV} (w : Q (.rt v) s h) : kS b Q (.rt v) s h := w
theorem kS_bk (w : Q .bk s h) : kS b Q .bk s h := w
theorem kS_ct (w : Q .ct s h) : kS b Q .ct s h := w
theorem wp_seq (w : Wp (a s h) (kS b Q)) : Wp (sSeq a b s h) Q := by
  obtain ⟨f, s1, h1, e, q⟩ := w
  cases f with
  | nx => obtain ⟨f2, s2, h2, e2, q2⟩ := q; exact ⟨f2, s2, h2, by simp only [sSeq, e, e2], q2⟩
  | rt v => exact ⟨_, _, _, by simp only [sSeq, e], q⟩
  | bk => exact ⟨_, _, _, by simp only [sSeq, e], q⟩
  | ct => exact ⟨_, _, _, by simp only [sSeq, e], q⟩
theorem wp_next (q : Q .nx s h) : Wp (sNext s h) Q := ⟨_, _, _, rfl, q⟩
theorem wp_expr (w : We (e s h) fun _ h1 => Q .nx s h1) : Wp (sExpr e s h) Q := by
  obtain ⟨v, h1, e1, q⟩ := w; exact ⟨_, _, _, by simp only [sExpr, e1], q⟩
theorem wp_ret (w : We (e s h) fun v h1 => Q (.rt v) s h1) : Wp (sRet e s h) Q := by
  obtain ⟨v, h1, e1, q⟩ := w; exact ⟨_, _, _, by simp only [sRet, e1], q⟩
theorem wp_retN (q : Q (.rt .non) s h) : Wp (sRetN s h) Q := ⟨_, _, _, rfl, q⟩
theorem wp_bk (q : Q .bk s h) : Wp (sBk s h) Q := ⟨_, _, _, rfl, q⟩
theorem wp_ct (q : Q .ct s h) : Wp (sCt s h) Q := ⟨_, _, _, rfl, q⟩
theorem wp_if (w : Wt (c s h) fun k h1 => kB k (Wp (a s h1) Q) (Wp (b s h1) Q)) : Wp (sIf c a b s h) Q := by
  obtain ⟨v, h1, e1, q⟩ := w
  cases v with
  | true => obtain ⟨f2, s2, h2, e2, q2⟩ := q; exact ⟨f2, s2, h2, by simp only [sIf, e1, e2], q2⟩
  | false => obtain ⟨f2, s2, h2, e2, q2⟩ := q; exact ⟨f2, s2, h2, by simp only [sIf, e1, e2], q2⟩
theorem wp_asg {g : XG} (w : We (e s h) fun v h1 => Wg (g v s h1) fun s2 h2 => Q .nx s2 h2) : Wp (sAsg e g s h) Q := by
  obtain ⟨v, h1, e1, s2, h2, e2, q⟩ := w; exact ⟨_, _, _, by simp only [sAsg, e1, e2], q⟩
theorem wp_put (w : We (e s h) fun v h1 => We (o s h1) fun d h2 => We (k s h2) fun kk h3 => Wm (stM h3 d kk v) fun h4 => Q .nx s h4) : Wp (sPut o k e s h) Q := by
  obtain ⟨v, h1, e1, d, h2, e2, kk, h3, e3, h4, e4, q⟩ := w; exact ⟨_, _, _, by simp only [sPut, e1, e2, e3, e4], q⟩
theorem wp_par {i j : Nat} (w : We (e s h) fun v h1 => We (o s h1) fun w h2 => Wg (gNm i v s h2) fun s2 h3 => Wg (gNm j w s2 h3) fun s3 h4 => Q .nx s3 h4) : Wp (sPar i j e o s h) Q := by
  obtain ⟨v, h1, e1, d, h2, e2, s2, h3, e3, s3, h4, e4, q⟩ := w; cases e3; cases e4; exact ⟨_, _, _, by simp only [sPar, e1, e2], q⟩
theorem wp_par3 {i j l : Nat} (w : We (e s h) fun v h1 => We (o s h1) fun w h2 => We (k s h2) fun x h3 => Wg (gNm i v s h3) fun s2 h4 => Wg (gNm j w s2 h4) fun s3 h5 => Wg (gNm l x s3 h5) fun s4 h6 => Q .nx s4 h6) : Wp (sPar3 i j l e o k s h) Q := by
  obtain ⟨v, h1, e1, d, h2, e2, x, h3, e3, s4, h4, e4, s5, h5, e5, s6, h6, e6, q⟩ := w; cases e4; cases e5; cases e6; exact ⟨_, _, _, by simp only [sPar3, e1, e2, e3], q⟩
/-! ### targets -/
theorem wg_nm' {i : Nat} {v : MV} {s2 : SM} {P : SM → MH → Prop} (e : s.set i (some v) = s2) (q : P s2 h) : Wg (gNm i v s h) P := ⟨_, _, rfl, e ▸ q⟩
theorem wg_tp {n : Nat} {g : XGs} {xs : List MV} {P : SM → MH → Prop} (e : xs.length = n) (w : Wg (g xs s h) P) : Wg (gTp n g (.tup xs) s h) P := by
  obtain ⟨s2, h2, e2, q⟩ := w; exact ⟨s2, h2, by simp only [gTp, e, e2, if_true], q⟩
theorem wg_rw {n : Nat} {g : XGs} {xs : List MV} {P : SM → MH → Prop} (e : xs.length = n) (w : Wg (g xs s h) P) : Wg (gTp n g (.row xs) s h) P := by
  obtain ⟨s2, h2, e2, q⟩ := w; exact ⟨s2, h2, by simp only [gTp, e, e2, if_true], q⟩
theorem wg_pair {g : XGs} {p : Int × Int} {P : SM → MH → Prop} (w : Wg (g [.int p.1, .int p.2] s h) P) : Wg (gTp 2 g (pairV p) s h) P := wg_tp rfl w
theorem wg_lp {n : Nat} {g : XGs} {xs : List MV} {P : SM → MH → Prop} (e : xs.length = n) (w : Wg (g xs s h) P) : Wg (gLp n g (.lst xs) s h) P := by
  obtain ⟨s2, h2, e2, q⟩ := w; exact ⟨s2, h2, by simp only [gLp, listOf, e, e2, if_true], q⟩
theorem wg_nil {P : SM → MH → Prop} (q : P s h) : Wg (gsNil [] s h) P := ⟨_, _, rfl, q⟩
theorem wg_cons {g : XG} {r : XGs} {v : MV} {vs : List MV} {P : SM → MH → Prop} (w : Wg (g v s h) fun s1 h1 => Wg (r vs s1 h1) P) : Wg (gsCons g r (v :: vs) s h) P := by
  obtain ⟨s1, h1, e1, s2, h2, e2, q⟩ := w; exact ⟨_, _, by simp only [gsCons, e1, e2], q⟩
/-! ### expressions -/
theorem we_var {i : Nat} {v : MV} (e : s[i]? = some (some v)) (q : R v h) : We (xVar i s h) R := ⟨_, _, var_at e, q⟩
theorem we_c {v : MV} (q : R v h) : We (xC v s h) R := ⟨_, _, rfl, q⟩
theorem we_op {f : MH → MV → MV → Option MV} (w : We (e s h) fun x h1 => We (o s h1) fun y h2 => Wv (f h2 x y) fun v => R v h2) : We (xOp f e o s h) R := by
  obtain ⟨x, h1, e1, y, h2, e2, v, e3, q⟩ := w; exact ⟨_, _, op_at e1 e2 e3, q⟩
theorem we_un {f : MH → MV → Option MV} (w : We (e s h) fun x h1 => Wv (f h1 x) fun v => R v h1) : We (xUn f e s h) R := by
  obtain ⟨x, h1, e1, v, e3, q⟩ := w; exact ⟨_, _, un_at e1 e3, q⟩
theorem wa_nil {P : List MV → MH → Prop} (q : P [] h) : Wa (xNil s h) P := ⟨_, _, rfl, q⟩
theorem wa_cons {r : XA} {P : List MV → MH → Prop} (w : We (e s h) fun x h1 => Wa (r s h1) fun xs h2 => P (x :: xs) h2) : Wa (xCons e r s h) P := by
  obtain ⟨x, h1, e1, xs, h2, e2, q⟩ := w; exact ⟨_, _, by simp only [xCons, e1, e2], q⟩
theorem we_args {f : MH → List MV → Option MV} {r : XA} (w : Wa (r s h) fun xs h1 => Wv (f h1 xs) fun v => R v h1) : We (xArgs f r s h) R := by
  obtain ⟨xs, h1, e1, v, e2, q⟩ := w; exact ⟨_, _, by simp only [xArgs, e1, e2], q⟩
theorem we_call {g : Fn} {r : XA} (w : Wa (r s h) fun xs h1 => We (g xs h1) R) : We (xCall g r s h) R := by
  obtain ⟨xs, h1, e1, v, h2, e2, q⟩ := w; exact ⟨_, _, by simp only [xCall, e1, e2], q⟩
theorem we_tup {r : XA} (w : Wa (r s h) fun xs h1 => R (.tup xs) h1) : We (xTup r s h) R := by
  obtain ⟨xs, h1, e1, q⟩ := w; exact ⟨_, _, by simp only [xTup, e1], q⟩
theorem we_tupR {r : XA} (w : Wa (r s h) fun xs h1 => R (.row xs) h1) : We (xTupR r s h) R := by
  obtain ⟨xs, h1, e1, q⟩ := w; exact ⟨_, _, by simp only [xTupR, e1], q⟩
theorem we_lst {r : XA} (w : Wa (r s h) fun xs h1 => R (.lst xs) h1) : We (xLst r s h) R := by
  obtain ⟨xs, h1, e1, q⟩ := w; exact ⟨_, _, by simp only [xLst, e1], q⟩
theorem we_box (w : We (e s h) fun v h1 => We (boxM v h1) R) : We (xBox e s h) R := by
  obtain ⟨v, h1, e1, v2, h2, e2, q⟩ := w; exact ⟨_, _, by simp only [xBox, e1, e2], q⟩
theorem we_boxl {xs : List MV} (q : R (.ref h.length) (h ++ [.lst xs])) : We (boxM (.lst xs) h) R := ⟨_, _, rfl, q⟩
theorem we_boxk {xs : List (MK × MV)} (q : R (.ref h.length) (h ++ [.dK xs])) : We (boxM (.dK xs) h) R := ⟨_, _, rfl, q⟩
theorem we_boxt {xs : List (List MK × MV)} (q : R (.ref h.length) (h ++ [.dT xs])) : We (boxM (.dT xs) h) R := ⟨_, _, rfl, q⟩
theorem we_if (w : Wt (c s h) fun k h1 => kB k (We (e s h1) R) (We (o s h1) R)) : We (xIf c e o s h) R := by
  obtain ⟨v, h1, e1, q⟩ := w
  cases v with
  | true => obtain ⟨s2, h2, e2, q2⟩ := q; exact ⟨s2, h2, by simp only [xIf, e1, e2], q2⟩
  | false => obtain ⟨s2, h2, e2, q2⟩ := q; exact ⟨s2, h2, by simp only [xIf, e1, e2], q2⟩
theorem we_and (w : We (e s h) fun v h1 => kV v fun k => kB k (We (o s h1) R) (R (.bl false) h1)) : We (xAnd e o s h) R := by
  obtain ⟨v, h1, e1, k, rfl, q⟩ := w
  cases k with
  | true => obtain ⟨s2, h2, e2, q2⟩ := q; exact ⟨s2, h2, by simp only [xAnd, e1, e2], q2⟩
  | false => exact ⟨_, _, by simp only [xAnd, e1], q⟩
theorem we_or (w : We (e s h) fun v h1 => kV v fun k => kB k (R (.bl true) h1) (We (o s h1) R)) : We (xOr e o s h) R := by
  obtain ⟨v, h1, e1, k, rfl, q⟩ := w
  cases k with
  | false => obtain ⟨s2, h2, e2, q2⟩ := q; exact ⟨s2, h2, by simp only [xOr, e1, e2], q2⟩
  | true => exact ⟨_, _, by simp only [xOr, e1], q⟩
theorem we_not (w : We (e s h) fun v h1 => kV v fun k => R (.bl (!k)) h1) : We (xNot e s h) R := by
  obtain ⟨v, h1, e1, k, rfl, q⟩ := w
  exact ⟨_, _, by simp only [xNot, e1], q⟩
theorem we_chain {f f' : MH → MV → MV → Option MV} (w : We (e s h) fun x h1 => We (o s h1) fun y h2 => Wv (f h2 x y) fun v => kV v fun t => kB t (We (k s h2) fun z h3 => Wv (f' h3 y z) fun v => R v h3) (R (.bl false) h2)) : We (xChain f f' e o k s h) R := by
  obtain ⟨x, h1, e1, y, h2, e2, v, e3, t, rfl, q⟩ := w
  cases t with
  | true => obtain ⟨z, h3, e4, v, e5, q⟩ := q; exact ⟨_, _, by simp only [xChain, e1, e2, e3, e4, e5], q⟩
  | false => exact ⟨_, _, by simp only [xChain, e1, e2, e3], q⟩
/-! ### tests -/
theorem wt_b {P : Bool → MH → Prop} (w : We (e s h) fun v h1 => kV v fun k => P k h1) : Wt (xB e s h) P := by
  obtain ⟨v, h1, e1, k, rfl, q⟩ := w; exact ⟨_, _, by simp only [xB, e1], q⟩
theorem wt_and {P : Bool → MH → Prop} (w : Wt (c s h) fun k h1 => kB k (Wt (d s h1) P) (P false h1)) : Wt (xAndT c d s h) P := by
  obtain ⟨k, h1, e1, q⟩ := w
  cases k with
  | true => obtain ⟨s2, h2, e2, q2⟩ := q; exact ⟨s2, h2, by simp only [xAndT, e1, e2], q2⟩
  | false => exact ⟨_, _, by simp only [xAndT, e1], q⟩
theorem wt_or {P : Bool → MH → Prop} (w : Wt (c s h) fun k h1 => kB k (P true h1) (Wt (d s h1) P)) : Wt (xOrT c d s h) P := by
  obtain ⟨k, h1, e1, q⟩ := w
  cases k with
  | false => obtain ⟨s2, h2, e2, q2⟩ := q; exact ⟨s2, h2, by simp only [xOrT, e1, e2], q2⟩
  | true => exact ⟨_, _, by simp only [xOrT, e1], q⟩
theorem wt_not {P : Bool → MH → Prop} (w : Wt (c s h) fun k h1 => P (!k) h1) : Wt (xNotT c s h) P := by
  obtain ⟨k, h1, e1, q⟩ := w; exact ⟨_, _, by simp only [xNotT, e1], q⟩
theorem wt_yes {P : Bool → MH → Prop} (q : P true h) : Wt (cYes s h) P := ⟨_, _, rfl, q⟩
/-! ### what is walked -/
/-- a list, a tuple read as what is walked -/
def kI (v : MV) (h : MH) (P : MI → MH → Prop) : Prop := (∃ n xs, v = .ref n ∧ h[n]? = some (.lst xs) ∧ P (.cell n) h) ∨ (∃ xs, seqOf h v = some xs ∧ (∀ n, v ≠ .ref n) ∧ P (.vals xs) h)
theorem wi_seq {P : MI → MH → Prop} (w : We (e s h) fun v h1 => kI v h1 P) : Wi (iSeq e s h) P := by
  obtain ⟨v, h1, e1, ⟨n, xs, rfl, e2, q⟩ | ⟨xs, e2, nr, q⟩⟩ := w
  · exact ⟨_, _, by simp only [iSeq, e1, e2], q⟩
  · cases v with
    | ref n => exact absurd rfl (nr n)
    | _ => first | exact ⟨_, _, by simp only [iSeq, e1, e2], q⟩ | exact ⟨_, _, by simp [iSeq, e1, e2], q⟩
theorem kI_row {xs : List MV} {P : MI → MH → Prop} (q : P (.vals xs) h) : kI (.row xs) h P := .inr ⟨xs, rfl, (fun _ e => nomatch e), q⟩
theorem kI_tup {xs : List MV} {P : MI → MH → Prop} (q : P (.vals xs) h) : kI (.tup xs) h P := .inr ⟨xs, rfl, (fun _ e => nomatch e), q⟩
theorem kI_lst {xs : List MV} {P : MI → MH → Prop} (q : P (.vals xs) h) : kI (.lst xs) h P := .inr ⟨xs, rfl, (fun _ e => nomatch e), q⟩
def kN (v : MV) (R : Int → Prop) : Prop := ∃ j, v = .int j ∧ -4611686018427387904 ≤ j ∧ j < 4611686018427387904 ∧ R j
theorem kN_int {j : Int} {P : Int → Prop} (b : -4611686018427387904 ≤ j ∧ j < 4611686018427387904) (q : P j) : kN (.int j) P := ⟨j, rfl, b.1, b.2, q⟩
theorem wi_rng1 {P : MI → MH → Prop} (w : We (e s h) fun v h1 => kN v fun j => P (.vals (rngM 0 j.toNat)) h1) : Wi (iRange1 e s h) P := by
  obtain ⟨v, h1, e1, j, rfl, j0, j1, q⟩ := w; exact ⟨_, _, rng1_at e1 ⟨j0, j1⟩, q⟩
theorem wi_rng2 {P : MI → MH → Prop} (w : We (e s h) fun v h1 => kN v fun i => We (o s h1) fun v2 h2 => kN v2 fun j => P (.vals (rngM i (j - i).toNat)) h2) : Wi (iRange2 e o s h) P := by
  obtain ⟨v, h1, e1, i, rfl, i0, i1, v2, h2, e2, j, rfl, j0, j1, q⟩ := w
  have q2 : (-(2 ^ 62) ≤ i ∧ i < 2 ^ 62 ∧ -(2 ^ 62) ≤ j ∧ j < 2 ^ 62) := by omega
  refine ⟨_, _, ?_, q⟩
  simp only [iRange2, e1, e2]
  rw [if_pos q2]
def kE (v : MV) (R : List MV → Prop) : Prop := ∃ xs, v = .tup xs ∧ R xs
theorem kE_tup {xs : List MV} {P : List MV → Prop} (q : P xs) : kE (.tup xs) P := ⟨xs, rfl, q⟩
theorem wi_enumT {P : MI → MH → Prop} (w : We (e s h) fun v h1 => kE v fun xs => P (.vals (enumM 0 xs)) h1) : Wi (iEnumT e s h) P := by
  obtain ⟨v, h1, e1, xs, rfl, q⟩ := w; exact ⟨_, _, by simp only [iEnumT, e1], q⟩
def kL (v : MV) (R : List MV → Prop) : Prop := ∃ xs, v = .lst xs ∧ R xs
theorem kL_lst {xs : List MV} {P : List MV → Prop} (q : P xs) : kL (.lst xs) P := ⟨xs, rfl, q⟩
theorem wi_enumL {P : MI → MH → Prop} (w : We (e s h) fun v h1 => kL v fun xs => P (.vals (enumM 0 xs)) h1) : Wi (iEnumL e s h) P := by
  obtain ⟨v, h1, e1, xs, rfl, q⟩ := w; exact ⟨_, _, by simp only [iEnumL, e1], q⟩
theorem wi_zipL {P : MI → MH → Prop} (w : We (e s h) fun v h1 => kL v fun xs => We (o s h1) fun v2 h2 => kL v2 fun ys => xs.length = ys.length ∧ P (.vals (zipM xs ys)) h2) : Wi (iZipL e o s h) P := by
  obtain ⟨v, h1, e1, xs, rfl, v2, h2, e2, ys, rfl, hl, q⟩ := w
  refine ⟨_, _, ?_, q⟩
  simp only [iZipL, e1, e2]
  rw [if_pos hl]
def kRv (v : MV) (R : List MV → Prop) : Prop := ∃ xs, revV v = some xs ∧ R xs
theorem kRv_lst {xs : List MV} {P : List MV → Prop} (q : P xs) : kRv (.lst xs) P := ⟨xs, rfl, q⟩
theorem kRv_tup {xs : List MV} {P : List MV → Prop} (q : P xs) : kRv (.tup xs) P := ⟨xs, rfl, q⟩
theorem kRv_row {xs : List MV} {P : List MV → Prop} (q : P xs) : kRv (.row xs) P := ⟨xs, rfl, q⟩
theorem wi_rev {P : MI → MH → Prop} (w : We (e s h) fun v h1 => kRv v fun xs => P (.vals xs.reverse) h1) : Wi (iRev e s h) P := by
  obtain ⟨v, h1, e1, xs, e2, q⟩ := w; exact ⟨_, _, by simp only [iRev, e1, e2], q⟩
def kF (m : MI) (g : XG) (b : XS) (s : SM) (h : MH) (Q : Fl → SM → MH → Prop) : Prop := match m with
  | .vals xs => Wp (forGo g b xs s h) Q
  | .cell n => Wp (fuel fun t => forCell g b n t 0 s h) Q
theorem kF_vals {g : XG} {xs : List MV} (w : Wp (forGo g b xs s h) Q) : kF (.vals xs) g b s h Q := w
theorem kF_cell {g : XG} {n : Nat} (w : Wp (fuel fun t => forCell g b n t 0 s h) Q) : kF (.cell n) g b s h Q := w
theorem wp_for {it : XI} {g : XG} (w : Wi (it s h) fun m h1 => kF m g b s h1 Q) : Wp (sFor it g b s h) Q := by
  obtain ⟨m, h1, e1, q⟩ := w
  cases m with
  | vals xs => obtain ⟨f, s2, h2, e2, q⟩ := q; exact ⟨f, s2, h2, by simp only [sFor, e1, e2], q⟩
  | cell n => obtain ⟨f, s2, h2, e2, q⟩ := q; exact ⟨f, s2, h2, by simp only [sFor, e1, e2], q⟩
def kC (m : MI) (g : XG) (c : XT) (e : XE) (s : SM) (h : MH) (R : MV → MH → Prop) : Prop := match m with
  | .vals xs => Wa (lcGo g c e [] xs s h) fun ys h2 => R (.lst ys) h2
  | .cell n => Wa (fuel fun t => lcCell g c e n t 0 [] s h) fun ys h2 => R (.lst ys) h2
theorem kC_vals {g : XG} {xs : List MV} (w : Wa (lcGo g c e [] xs s h) fun ys h2 => R (.lst ys) h2) : kC (.vals xs) g c e s h R := w
theorem kC_cell {g : XG} {n : Nat} (w : Wa (fuel fun t => lcCell g c e n t 0 [] s h) fun ys h2 => R (.lst ys) h2) : kC (.cell n) g c e s h R := w
theorem we_lc {it : XI} {g : XG} {own : List Nat} (w : Wi (it s h) fun m h1 => kC m g c e (wipeM s own) h1 R) : We (xLc it g c e own s h) R := by
  obtain ⟨m, h1, e1, q⟩ := w
  cases m with
  | vals xs => obtain ⟨ys, h2, e2, q⟩ := q; exact ⟨_, h2, by simp only [xLc, e1, e2], q⟩
  | cell n => obtain ⟨ys, h2, e2, q⟩ := q; exact ⟨_, h2, by simp only [xLc, e1, e2], q⟩
theorem we_lc' {it : XI} {g : XG} {own : List Nat} {s2 : SM} (es : wipeM s own = s2) (w : Wi (it s h) fun m h1 => kC m g c e s2 h1 R) : We (xLc it g c e own s h) R := we_lc (es ▸ w)
/-! ### slices -/
theorem wo_none {P : Option Int → MH → Prop} (q : P none h) : Wo (xNoPart s h) P := ⟨_, _, rfl, q⟩
def kP (v : MV) (P : Int → Prop) : Prop := ∃ i, v = .int i ∧ P i
theorem kP_int {i : Int} {P : Int → Prop} (q : P i) : kP (.int i) P := ⟨i, rfl, q⟩
theorem wo_part {P : Option Int → MH → Prop} (w : We (e s h) fun v h1 => kP v fun i => P (some i) h1) : Wo (xPart e s h) P := by
  obtain ⟨v, h1, e1, i, rfl, q⟩ := w; exact ⟨_, _, by simp only [xPart, e1], q⟩
theorem we_slL {lo hi : XO} (w : We (e s h) fun v h1 => Wo (lo s h1) fun l h2 => Wo (hi s h2) fun u h3 => ∃ xs, listOf h3 v = some xs ∧ R (.lst (cutM xs l u)) h3) : We (xSlL e lo hi s h) R := by
  obtain ⟨v, h1, e1, l, h2, e2, u, h3, e3, xs, e4, q⟩ := w; exact ⟨_, _, by simp only [xSlL, e1, e2, e3, e4], q⟩
/-! ### methods -/
theorem we_append (w : We (o s h) fun d h1 => ∃ n ys, d = .ref n ∧ h1[n]? = some (.lst ys) ∧ We (e s h1) fun v h2 => ∃ xs, h2[n]? = some (.lst xs) ∧ xs.length < 16777216 ∧ R .non (h2.set n (.lst (xs ++ [v])))) : We (xAppend o e s h) R := by
  obtain ⟨d, h1, e1, n, ys, rfl, e2, v, h2, e3, xs, e4, z, q⟩ := w
  exact ⟨_, _, append_at e1 e2 e3 e4 (by unfold szLine; exact z), q⟩
/-! ### defs -/
def kR (f : Fl) (R : MV → Prop) : Prop := (f = .nx ∧ R .non) ∨ ∃ v, f = .rt v ∧ R v
theorem kR_rt {v : MV} {P : MV → Prop} (q : P v) : kR (.rt v) P := .inr ⟨v, rfl, q⟩
theorem kR_nx {P : MV → Prop} (q : P .non) : kR .nx P := .inl ⟨rfl, q⟩
theorem we_def {n : Nat} {vs : List MV} (w : Wp (b (sBegin n vs) h) fun f _ h1 => kR f fun v => R v h1) : We (runDef n b vs h) R := by
  obtain ⟨f, s1, h1, e1, ⟨rfl, q⟩ | ⟨v, rfl, q⟩⟩ := w
  · exact ⟨_, _, run_nx e1, q⟩
  · exact ⟨_, _, run_rt e1, q⟩
/-! ### loops -/
theorem wfor {g : XG} (I : Nat → SM → MH → Prop) {xs : List MV} (h0 : I 0 s h)
    (step : ∀ i x s h, xs[i]? = some x → I i s h → Wg (g x s h) fun s1 h1 => Wp (b s1 h1) fun f s2 h2 => ((f = .nx ∨ f = .ct) ∧ I (i + 1) s2 h2))
    (fin : ∀ s h, I xs.length s h → Q .nx s h) : Wp (forGo g b xs s h) Q := by
  obtain ⟨s', h', e, i⟩ := forGo_run (g := g) (b := b) I xs 0 s h h0 fun i x s h ex hi => by
    rw [Nat.zero_add] at hi ⊢
    obtain ⟨s1, h1, e1, f, s2, h2, e2, c, i2⟩ := step i x s h ex hi
    exact ⟨s1, h1, f, s2, h2, e1, e2, c, i2⟩
  rw [Nat.zero_add] at i
  exact ⟨_, _, _, e, fin _ _ i⟩
theorem wforR {g : XG} (I : Nat → SM → MH → Prop) {xs : List MV} (h0 : I 0 s h)
    (step : ∀ i x s h, xs[i]? = some x → I i s h → Wg (g x s h) fun s1 h1 => Wp (b s1 h1) fun f s2 h2 => (((f = .nx ∨ f = .ct) ∧ I (i + 1) s2 h2) ∨ (f = .bk ∧ Q .nx s2 h2) ∨ ∃ v, f = .rt v ∧ Q (.rt v) s2 h2))
    (fin : ∀ s h, I xs.length s h → Q .nx s h) : Wp (forGo g b xs s h) Q := by
  obtain ⟨f, s', h', e, i⟩ := forGo_ret (g := g) (b := b) I Q xs 0 s h h0 (fun s h i => by rw [Nat.zero_add] at i; exact fin s h i) fun i x s h ex hi => by
    rw [Nat.zero_add] at hi ⊢
    obtain ⟨s1, h1, e1, f, s2, h2, e2, c⟩ := step i x s h ex hi
    exact ⟨s1, h1, f, s2, h2, e1, e2, c⟩
  exact ⟨_, _, _, e, i⟩
theorem wwhileN (I : Nat → SM → MH → Prop) (n : Nat) (h0 : I n s h)
    (step : ∀ n s h, I n s h → Wt (c s h) fun k h1 => kB k (Wp (b s h1) fun f s2 h2 => (f = .nx ∨ f = .ct) ∧ ∃ m, m < n ∧ I m s2 h2) (Q .nx s h1)) : Wp (sWhile c b s h) Q := by
  have key : ∀ (k : Nat) (n : Nat) (s : SM) (h : MH), n < k → I n s h → ∃ n s' h', whileGo c b n s h = some (.nx, s', h') ∧ Q .nx s' h' := fun k => by
    induction k with
    | zero => exact fun n s h hk => absurd hk (Nat.not_lt_zero _)
    | succ k ih =>
      intro n s h hk hi
      obtain ⟨t, h1, e1, q⟩ := step n s h hi
      cases t with
      | false => exact ⟨1, s, h1, by simp only [whileGo, e1], q⟩
      | true =>
        obtain ⟨f, s2, h2, e2, hf, m, hm, i2⟩ := q
        obtain ⟨N, s', h', e3, q⟩ := ih m s2 h2 (by omega) i2
        refine ⟨N + 1, s', h', ?_, q⟩
        rcases hf with rfl | rfl <;> simp only [whileGo, e1, e2, e3]
  obtain ⟨N, s', h', e, q⟩ := key (n + 1) n s h (Nat.lt_succ_self _) h0
  exact ⟨_, _, _, fuel_of (f := fun n => whileGo c b n s h) (fun n r e => whileGo_mono n s h r e) e, q⟩
theorem wp_forK {n : Nat} {g : XG} {kvs : List (MK × MV)} (e1 : s[n]? = some (some (.dK kvs))) (w : Wp (forGo g b (kvs.map fun kv => keyV kv.1) s h) Q) : Wp (sForK n g b s h) Q := by
  obtain ⟨f, s2, h2, e2, q⟩ := w; exact ⟨_, _, _, (forK_at e1).trans e2, q⟩
end
/-! ### operations -/
section
variable {h : MH} {R : MV → Prop} {i j : Int} {a b : Bool} {xs ys : List MV}
theorem wv_add (q : R (.int (i + j))) : Wv (opAdd h (.int i) (.int j)) R := ⟨_, rfl, q⟩
theorem wv_sub (q : R (.int (i - j))) : Wv (opSub h (.int i) (.int j)) R := ⟨_, rfl, q⟩
theorem wv_neg (q : R (.int (-i))) : Wv (opNeg h (.int i)) R := ⟨_, rfl, q⟩
theorem wv_lt (q : R (.bl (decide (i < j)))) : Wv (opLt h (.int i) (.int j)) R := ⟨_, rfl, q⟩
theorem wv_le (q : R (.bl (decide (i ≤ j)))) : Wv (opLe h (.int i) (.int j)) R := ⟨_, rfl, q⟩
theorem wv_gt (q : R (.bl (decide (j < i)))) : Wv (opGt h (.int i) (.int j)) R := ⟨_, rfl, q⟩
theorem wv_ge (q : R (.bl (decide (j ≤ i)))) : Wv (opGe h (.int i) (.int j)) R := ⟨_, rfl, q⟩
theorem wv_mod (c : 0 < j) (q : R (.int (i % j))) : Wv (opMod h (.int i) (.int j)) R := ⟨_, mod_ok c, q⟩
theorem wv_div (c : 0 < j) (c2 : j < 1606938044258990275541962092341162602522202993782792835301376) (q : R (.int (i / j))) : Wv (opDiv h (.int i) (.int j)) R := ⟨_, div_ok c c2, q⟩
theorem wv_eqii (q : R (.bl (decide (i = j)))) : Wv (opEq h (.int i) (.int j)) R := ⟨_, by rw [eq_ii]; congr 2, q⟩
theorem wv_neii (q : R (.bl (!decide (i = j)))) : Wv (opNe h (.int i) (.int j)) R := ⟨_, by rw [ne_ii]; congr 2, q⟩
theorem wv_isbl (q : R (.bl (decide (a = b)))) : Wv (opIsBl h (.bl a) (.bl b)) R := ⟨_, rfl, q⟩
theorem wv_notbl (q : R (.bl (!decide (a = b)))) : Wv (opNotBl h (.bl a) (.bl b)) R := ⟨_, rfl, q⟩
theorem wv_lenL (q : R (.int xs.length)) : Wv (fLen h [.lst xs]) R := ⟨_, rfl, q⟩
theorem wv_lenT (q : R (.int xs.length)) : Wv (fLen h [.tup xs]) R := ⟨_, rfl, q⟩
theorem wv_lenR (q : R (.int xs.length)) : Wv (fLen h [.row xs]) R := ⟨_, rfl, q⟩
theorem wv_lenK {kvs : List (MK × MV)} (q : R (.int kvs.length)) : Wv (fLen h [.dK kvs]) R := ⟨_, len_dK, q⟩
theorem wv_abs (q : R (.int (if i < 0 then -i else i))) : Wv (fAbs h [.int i]) R := ⟨_, rfl, q⟩
theorem wv_max (q : R (.int (if j > i then j else i))) : Wv (fMax2 h [.int i, .int j]) R := ⟨_, rfl, q⟩
theorem wv_min (q : R (.int (if j < i then j else i))) : Wv (fMin2 h [.int i, .int j]) R := ⟨_, rfl, q⟩
theorem wv_listL (q : R (.lst xs)) : Wv (fList h [.lst xs]) R := ⟨_, rfl, q⟩
theorem wv_listT (q : R (.lst xs)) : Wv (fList h [.tup xs]) R := ⟨_, rfl, q⟩
theorem wv_listR (q : R (.lst xs)) : Wv (fList h [.row xs]) R := ⟨_, rfl, q⟩
theorem wv_tupL (q : R (.row xs)) : Wv (fTuple h [.lst xs]) R := ⟨_, rfl, q⟩
theorem wv_tupT (q : R (.tup xs)) : Wv (fTuple h [.tup xs]) R := ⟨_, rfl, q⟩
theorem wv_tupR (q : R (.row xs)) : Wv (fTuple h [.row xs]) R := ⟨_, rfl, q⟩
theorem wv_ixL (w : Wv (atM xs i) R) : Wv (opIx h (.lst xs) (.int i)) R := w
theorem wv_ixT (w : Wv (atM xs i) R) : Wv (opIx h (.tup xs) (.int i)) R := w
theorem wv_ixR (w : Wv (atM xs i) R) : Wv (opIx h (.row xs) (.int i)) R := w
theorem wv_at0 {x : MV} (q : R x) : Wv (atM (x :: xs) 0) R := ⟨_, at_0, q⟩
theorem wv_at1 {x y : MV} (q : R y) : Wv (atM (x :: y :: xs) 1) R := ⟨_, at_1, q⟩
theorem wv_at2 {x y z : MV} (q : R z) : Wv (atM (x :: y :: z :: xs) 2) R := ⟨_, at_2, q⟩
theorem wv_ixP0 {p : Int × Int} (q : R (.int p.1)) : Wv (opIx h (pairV p) (.int 0)) R := ⟨_, rfl, q⟩
theorem wv_ixP1 {p : Int × Int} (q : R (.int p.2)) : Wv (opIx h (pairV p) (.int 1)) R := ⟨_, rfl, q⟩
theorem wv_revL (q : R (.lst xs.reverse)) : Wv (opRevLst h (.lst xs)) R := ⟨_, rfl, q⟩
theorem wv_pick {α : Type} {f : α → MV} {xs : List α} (hn : 0 ≤ i) (hx : xs ≠ []) (q : ∀ x ∈ xs, R (f x)) : Wv (atM (xs.map f) (i % (((xs.map f).length : Nat) : Int))) R := by
  obtain ⟨x, hm, e⟩ := pick (f := f) hn hx
  rw [List.length_map]
  exact ⟨_, e, q x hm⟩
theorem wv_inL {r : List Int} (q : R (.bl (decide (i ∈ r)))) : Wv (opIn h (.int i) (.lst (r.map .int))) R := ⟨_, in_lst _ _ _, q⟩
theorem wv_inT {r : List Int} (q : R (.bl (decide (i ∈ r)))) : Wv (opIn h (.int i) (.tup (r.map .int))) R := ⟨_, in_tup _ _ _, q⟩
theorem wv_inR {r : List Int} (q : R (.bl (decide (i ∈ r)))) : Wv (opIn h (.int i) (.row (r.map .int))) R := ⟨_, in_row _ _ _, q⟩
theorem wv_ninL {r : List Int} (q : R (.bl (!decide (i ∈ r)))) : Wv (opNotIn h (.int i) (.lst (r.map .int))) R := ⟨_, notin_lst _ _ _, q⟩
theorem wv_ninT {r : List Int} (q : R (.bl (!decide (i ∈ r)))) : Wv (opNotIn h (.int i) (.tup (r.map .int))) R := ⟨_, notin_tup _ _ _, q⟩
theorem wv_ninR {r : List Int} (q : R (.bl (!decide (i ∈ r)))) : Wv (opNotIn h (.int i) (.row (r.map .int))) R := ⟨_, notin_row _ _ _, q⟩
theorem wv_inW {W : WL} (q : R (.bl (decide (i ∈ keysOf' W)))) : Wv (opIn h (.int i) (.dK (websV W))) R := ⟨_, in_webs _ _ _, q⟩
theorem wv_ninW {W : WL} (q : R (.bl (!decide (i ∈ keysOf' W)))) : Wv (opNotIn h (.int i) (.dK (websV W))) R := ⟨_, notin_webs _ _ _, q⟩
theorem wv_keysSW {W : WL} (q : R (.lst ((sortI (keysOf' W)).map .int))) : Wv (fKeysS h (.dK (websV W))) R := ⟨_, keysS_webs _ _, q⟩
theorem wv_keysTW {W : WL} (q : R (.tup ((keysOf' W).map .int))) : Wv (fKeysT h (.dK (websV W))) R := ⟨_, keysT_webs _ _, q⟩
theorem wv_keysLW {W : WL} (q : R (.lst ((keysOf' W).map .int))) : Wv (fKeys h (.dK (websV W))) R := ⟨_, keysL_webs _ _, q⟩
theorem wv_sortL {r : List Int} (q : R (.lst ((sortI r).map .int))) : Wv (fSorted h [.lst (r.map .int)]) R := ⟨_, sorted_lst _ _, q⟩
theorem wv_sortT {r : List Int} (q : R (.lst ((sortI r).map .int))) : Wv (fSorted h [.tup (r.map .int)]) R := ⟨_, sorted_tup _ _, q⟩
theorem wv_sortR {r : List Int} (q : R (.lst ((sortI r).map .int))) : Wv (fSorted h [.row (r.map .int)]) R := ⟨_, sorted_tup h r, q⟩
theorem wv_sortP {L : List (Int × Int)} (q : R (.lst ((sortP L).map pairV))) : Wv (fSorted h [.lst (L.map pairV)]) R := ⟨_, sorted_pairs _ _, q⟩
theorem wv_neP {L M : List (Int × Int)} (q : R (.bl (!decide (L = M)))) : Wv (opNe h (.lst (L.map pairV)) (.lst (M.map pairV))) R := ⟨_, ne_pairs _ _, q⟩
theorem wv_isN {v : MV} (q : R (.bl (match v with | .non => true | _ => false))) : Wv (opIsNon h v .non) R := ⟨_, rfl, q⟩
theorem wv_notN {v : MV} (q : R (.bl (match v with | .non => false | _ => true))) : Wv (opNotNon h v .non) R := ⟨_, rfl, q⟩
theorem wv_isi {v : MV} {t a : String} {k : Bool} (e : tyN h v = some a) (e2 : subTy a t = k) (q : R (.bl k)) : Wv (fIsi t h [v]) R := ⟨_, by simp only [fIsi, e, e2], q⟩
end
end Ew
end

section
set_option linter.all false
set_option maxRecDepth 100000
/-! EwSC: more plain operations. -/
namespace Ew
open PySem (Str)
/-- int(x), x a truth or a number -/
def fInt (_ : MH) : List MV → Option MV
  | [.int i] => some (.int i)
  | [.bl b] => some (.int (if b then 1 else 0))
  | _ => none
/-- xs.count(k), a list of ints -/
def opCount (_ : MH) (d y : MV) : Option MV := match lstV d, y with
  | some xs, .int k => (intsOf xs).map fun ns => .int (ns.count k : Nat)
  | _, _ => none
section
variable {h : MH} {R : MV → Prop}
theorem wv_intB {b : Bool} (q : R (.int (if b then 1 else 0))) : Wv (fInt h [.bl b]) R := ⟨_, rfl, q⟩
theorem wv_intI {i : Int} (q : R (.int i)) : Wv (fInt h [.int i]) R := ⟨_, rfl, q⟩
theorem wv_countL {r : List Int} {k : Int} (q : R (.int (r.count k : Nat))) : Wv (opCount h (.lst (r.map .int)) (.int k)) R := ⟨_, by simp only [opCount, lstV, ints_of_map, Option.map_some], q⟩
end
/-! ### a def called with what its arguments' cells tell -/
mutual
def peekM (h : MH) : MV → Option MV
  | .ref n => match h[n]? with
    | some (.lst xs) => if plainL xs = true then some (.lst xs) else none
    | some (.dK kvs) => if plainK kvs = true then some (.dK kvs) else none
    | some (.dT kvs) => if plainT kvs = true then some (.dT kvs) else none
    | _ => none
  | .tup xs => match peekMs h xs with
    | some ys => some (.tup ys)
    | none => none
  | v => if plainV v = true then some v else none
def peekMs (h : MH) : List MV → Option (List MV)
  | [] => some []
  | x :: xs => match peekM h x, peekMs h xs with
    | some y, some ys => some (y :: ys)
    | _, _ => none
end
/-! ### sorted(d.keys()) of a dict with pairs as keys; sorted(set(l)) of a list -/
/-- xs.index(a), xs a value or a list in a cell -/
def xIndexB (o e : XE) : XE := fun s h => match xOp opIndexL o e s h with
  | some r => some r
  | none => xIndexC o e s h
end Ew
end

section
set_option Elab.async false
set_option linter.all false
set_option maxRecDepth 100000
set_option maxHeartbeats 4000000
/-! EwCB: the bridge of EwSC. -/
namespace Ew
open PySem PySem.Spec PyProof.Rows L2
variable [Tabs]
section
variable {K : PySem.W.Frag} {X : Cx} {e a b c o i : Expr} {m ma mb mc mo mi : XE} {pos p p2 q : Pos} {es : List Expr} {mas : XA}
/-! ### chains -/
section
variable {v : MV}
end
/-! ### len(set(t)) -/
/-! ### xs.count(k) -/
/-! ### xs.remove(k) -/
theorem VRs.rep {r w : List Addr} {H : Hp} {xs : List MV} {us : List V} (q : VRs K r w H xs us) : ∀ n : Nat, VRs K r w H (List.replicate n xs).flatten (List.replicate n us).flatten
  | 0 => by simp [VRs]
  | n + 1 => by rw [List.replicate_succ, List.replicate_succ, List.flatten_cons, List.flatten_cons]; exact VRs.append q (VRs.rep q n)
end
end Ew
end

section
set_option linter.all false
set_option maxRecDepth 100000
/-! EwXS: the small machine where something may be raised: classes of exceptions are numbers. -/
namespace Ew
open PySem (Str)
/-- how a text ends: as usual, or by an exception of the class c -/
inductive OX where
  | ok (f : Fl) (s : SM) | ex (c : Nat) (s : SM)
/-- what a def that may raise answers -/
inductive RX where
  | val (v : MV) | ex (c : Nat)
abbrev FnX := List MV → MH → Option (RX × MH)
abbrev XSX := SM → MH → Option (OX × MH)
def liftX (m : XS) : XSX := fun s h => match m s h with
  | some (f, s', h') => some (.ok f s', h')
  | none => none
def seqX (a b : XSX) : XSX := fun s h => match a s h with
  | some (.ok .nx s1, h1) => b s1 h1
  | r => r
def ifX (c : XT) (a b : XSX) : XSX := fun s h => match c s h with
  | none => none
  | some (true, h1) => a s h1
  | some (false, h1) => b s h1
def raiseX (c : Nat) : XSX := fun s h => some (.ex c s, h)
/-- return g(..) -/
def retX (g : FnX) (a : XA) : XSX := fun s h => match a s h with
  | none => none
  | some (xs, h1) => match g xs h1 with
    | none => none
    | some (.val v, h2) => some (.ok (.rt v) s, h2)
    | some (.ex c, h2) => some (.ex c s, h2)
/-- x = g(..) -/
def asgX (t : XG) (g : FnX) (a : XA) : XSX := fun s h => match a s h with
  | none => none
  | some (xs, h1) => match g xs h1 with
    | none => none
    | some (.val v, h2) => match t v s h2 with
      | some (s', h3) => some (.ok .nx s', h3)
      | none => none
    | some (.ex c, h2) => some (.ex c s, h2)
/-- g(..) -/
def exprX (g : FnX) (a : XA) : XSX := fun s h => match a s h with
  | none => none
  | some (xs, h1) => match g xs h1 with
    | none => none
    | some (.val _, h2) => some (.ok .nx s, h2)
    | some (.ex c, h2) => some (.ex c s, h2)
def runDefX (n : Nat) (b : XSX) : FnX := fun vs h => match b (sBegin n vs) h with
  | some (.ok (.rt v) _, h1) => some (.val v, h1)
  | some (.ok .nx _, h1) => some (.val .non, h1)
  | some (.ex c _, h1) => some (.ex c, h1)
  | _ => none
/-- a def that does not raise here -/
def okX (g : FnX) : Fn := fun vs h => match g vs h with
  | some (.val v, h1) => some (v, h1)
  | _ => none
/-- .. told by what it hands back -/
noncomputable def toldX (g : FnX) : FnX := fun args h => match toldA (okX g) args h with
  | some (v, h') => some (.val v, h')
  | none => match g args h with
    | some (.ex c, h2) => some (.ex c, h2)
    | _ => none
/-- the clauses: the first whose class holds -/
def catchX (sub : Nat → Nat → Bool) (c : Nat) : List (Nat × XS) → XS
  | [] => fun _ _ => none
  | (d, b) :: r => if sub c d then b else catchX sub c r
def sTry (n : Nat) (sub : Nat → Nat → Bool) (b : XSX) (hs : List (Nat × XS)) : XS := fun s h => match b s h with
  | some (.ok f s', h') => some (f, s', h')
  | some (.ex c s', h') => if c < n then catchX sub c hs s' h' else none
  | none => none
/-! ### what a run ends with -/
def Wx (o : Option (OX × MH)) (Q : OX → MH → Prop) : Prop := ∃ f h, o = some (f, h) ∧ Q f h
def Wr (o : Option (RX × MH)) (Q : RX → MH → Prop) : Prop := ∃ f h, o = some (f, h) ∧ Q f h
theorem wr_of {o : Option (RX × MH)} {f : RX} {h : MH} {Q : RX → MH → Prop} (e : o = some (f, h)) (q : Q f h) : Wr o Q := ⟨_, _, e, q⟩
/-- what comes behind a statement -/
def kX (b : XSX) (Q : OX → MH → Prop) (o : OX) (h : MH) : Prop := match o with
  | .ok .nx s => Wx (b s h) Q
  | o => Q o h
section
variable {a b : XSX} {m : XS} {s : SM} {h : MH} {Q : OX → MH → Prop} {c : XT} {g : FnX} {r : XA}
theorem kX_nx (w : Wx (b s h) Q) : kX b Q (.ok .nx s) h := w
theorem kX_rt {v : MV} (w : Q (.ok (.rt v) s) h) : kX b Q (.ok (.rt v) s) h := w
theorem kX_ex {k : Nat} (w : Q (.ex k s) h) : kX b Q (.ex k s) h := w
theorem wx_seq (w : Wx (a s h) (kX b Q)) : Wx (seqX a b s h) Q := by
  obtain ⟨o, h1, e, q⟩ := w
  cases o with
  | ok f s1 =>
    cases f with
    | nx => obtain ⟨f2, h2, e2, q2⟩ := q; exact ⟨f2, h2, by simp only [seqX, e, e2], q2⟩
    | rt v => exact ⟨_, _, by simp only [seqX, e], q⟩
    | bk => exact ⟨_, _, by simp only [seqX, e], q⟩
    | ct => exact ⟨_, _, by simp only [seqX, e], q⟩
  | ex k s1 => exact ⟨_, _, by simp only [seqX, e], q⟩
theorem wx_lift (w : Wp (m s h) fun f s1 h1 => Q (.ok f s1) h1) : Wx (liftX m s h) Q := by
  obtain ⟨f, s1, h1, e, q⟩ := w; exact ⟨_, _, by simp only [liftX, e], q⟩
theorem wx_if (w : Wt (c s h) fun k h1 => kB k (Wx (a s h1) Q) (Wx (b s h1) Q)) : Wx (ifX c a b s h) Q := by
  obtain ⟨v, h1, e1, q⟩ := w
  cases v with
  | true => obtain ⟨f2, h2, e2, q2⟩ := q; exact ⟨f2, h2, by simp only [ifX, e1, e2], q2⟩
  | false => obtain ⟨f2, h2, e2, q2⟩ := q; exact ⟨f2, h2, by simp only [ifX, e1, e2], q2⟩
theorem wx_raise {k : Nat} (q : Q (.ex k s) h) : Wx (raiseX k s h) Q := ⟨_, _, rfl, q⟩
/-- what a call that may raise gives -/
def kV2 (f : MV → MH → Prop) (e : Nat → MH → Prop) (o : RX) (h : MH) : Prop := match o with
  | .val v => f v h
  | .ex c => e c h
theorem kV2_val {f : MV → MH → Prop} {e : Nat → MH → Prop} {v : MV} (q : f v h) : kV2 f e (.val v) h := q
theorem kV2_ex {f : MV → MH → Prop} {e : Nat → MH → Prop} {k : Nat} (q : e k h) : kV2 f e (.ex k) h := q
theorem wx_ret (w : Wa (r s h) fun xs h1 => Wr (g xs h1) (kV2 (fun v h2 => Q (.ok (.rt v) s) h2) fun k h2 => Q (.ex k s) h2)) : Wx (retX g r s h) Q := by
  obtain ⟨xs, h1, e1, o, h2, e2, q⟩ := w
  cases o with
  | val v => exact ⟨_, _, by simp only [retX, e1, e2], q⟩
  | ex k => exact ⟨_, _, by simp only [retX, e1, e2], q⟩
theorem wx_asg {t : XG} (w : Wa (r s h) fun xs h1 => Wr (g xs h1) (kV2 (fun v h2 => Wg (t v s h2) fun s' h3 => Q (.ok .nx s') h3) fun k h2 => Q (.ex k s) h2)) : Wx (asgX t g r s h) Q := by
  obtain ⟨xs, h1, e1, o, h2, e2, q⟩ := w
  cases o with
  | val v => obtain ⟨s', h3, e3, q⟩ := q; exact ⟨_, _, by simp only [asgX, e1, e2, e3], q⟩
  | ex k => exact ⟨_, _, by simp only [asgX, e1, e2], q⟩
theorem wx_expr (w : Wa (r s h) fun xs h1 => Wr (g xs h1) (kV2 (fun _ h2 => Q (.ok .nx s) h2) fun k h2 => Q (.ex k s) h2)) : Wx (exprX g r s h) Q := by
  obtain ⟨xs, h1, e1, o, h2, e2, q⟩ := w
  cases o with
  | val v => exact ⟨_, _, by simp only [exprX, e1, e2], q⟩
  | ex k => exact ⟨_, _, by simp only [exprX, e1, e2], q⟩
/-- what a def ends with -/
def kRX (R : RX → MH → Prop) (o : OX) (h : MH) : Prop := match o with
  | .ok (.rt v) _ => R (.val v) h
  | .ok .nx _ => R (.val .non) h
  | .ex c _ => R (.ex c) h
  | _ => False
theorem kRX_rt {R : RX → MH → Prop} {v : MV} (q : R (.val v) h) : kRX R (.ok (.rt v) s) h := q
theorem kRX_nx {R : RX → MH → Prop} (q : R (.val .non) h) : kRX R (.ok .nx s) h := q
theorem kRX_ex {R : RX → MH → Prop} {k : Nat} (q : R (.ex k) h) : kRX R (.ex k s) h := q
theorem wr_def {n : Nat} {vs : List MV} {R : RX → MH → Prop} (w : Wx (b (sBegin n vs) h) (kRX R)) : Wr (runDefX n b vs h) R := by
  obtain ⟨o, h1, e, q⟩ := w
  cases o with
  | ok f s1 =>
    cases f with
    | nx => exact ⟨_, _, by simp only [runDefX, e], q⟩
    | rt v => exact ⟨_, _, by simp only [runDefX, e], q⟩
    | bk => exact q.elim
    | ct => exact q.elim
  | ex k s1 => exact ⟨_, _, by simp only [runDefX, e], q⟩
/-- what a try ends with -/
def kT (n : Nat) (sub : Nat → Nat → Bool) (hs : List (Nat × XS)) (Q : Fl → SM → MH → Prop) (o : OX) (h : MH) : Prop := match o with
  | .ok f s => Q f s h
  | .ex c s => c < n ∧ Wp (catchX sub c hs s h) Q
theorem kT_ok {n : Nat} {sub : Nat → Nat → Bool} {hs : List (Nat × XS)} {Q : Fl → SM → MH → Prop} {f : Fl} (q : Q f s h) : kT n sub hs Q (.ok f s) h := q
theorem kT_ex {n : Nat} {sub : Nat → Nat → Bool} {hs : List (Nat × XS)} {Q : Fl → SM → MH → Prop} {k : Nat} (l : k < n) (q : Wp (catchX sub k hs s h) Q) : kT n sub hs Q (.ex k s) h := ⟨l, q⟩
theorem wp_try {n : Nat} {sub : Nat → Nat → Bool} {hs : List (Nat × XS)} {Q : Fl → SM → MH → Prop} (w : Wx (b s h) (kT n sub hs Q)) : Wp (sTry n sub b hs s h) Q := by
  obtain ⟨o, h1, e, q⟩ := w
  cases o with
  | ok f s1 => exact ⟨_, _, _, by simp only [sTry, e], q⟩
  | ex k s1 => obtain ⟨l, f, s2, h2, e2, q⟩ := q; exact ⟨_, _, _, by simp only [sTry, e, if_pos l, e2], q⟩
theorem wp_catch_t {sub : Nat → Nat → Bool} {k d : Nat} {m : XS} {hs : List (Nat × XS)} {Q : Fl → SM → MH → Prop} (e : sub k d = true) (w : Wp (m s h) Q) : Wp (catchX sub k ((d, m) :: hs) s h) Q := by
  unfold catchX; rw [if_pos e]; exact w
theorem wp_catch_f {sub : Nat → Nat → Bool} {k d : Nat} {m : XS} {hs : List (Nat × XS)} {Q : Fl → SM → MH → Prop} (e : sub k d = false) (w : Wp (catchX sub k hs s h) Q) : Wp (catchX sub k ((d, m) :: hs) s h) Q := by
  unfold catchX; rw [if_neg (by rw [e]; exact Bool.noConfusion)]; exact w
theorem we_okX {vs : List MV} {R : MV → MH → Prop} (w : Wr (g vs h) fun o h1 => ∃ v, o = .val v ∧ R v h1) : We (okX g vs h) R := by
  obtain ⟨o, h1, e, v, rfl, q⟩ := w; exact ⟨_, _, by simp only [okX, e], q⟩
end
theorem toldX_ex {g : FnX} {args : List MV} {h h2 : MH} {c : Nat} (e : g args h = some (.ex c, h2)) : toldX g args h = some (.ex c, h2) := by
  have e0 : okX g args h = none := by simp only [okX, e]
  have e1 : toldA (okX g) args h = none := by
    unfold toldA toldV toldF
    simp only [e0]
  simp only [toldX, e1, e]
end Ew
end

section
set_option Elab.async false
set_option linter.all false
set_option maxRecDepth 100000
set_option maxHeartbeats 4000000
/-! EwBS: a list that is displayed, at a truth. -/
namespace Ew
end Ew
end

section
set_option Elab.async false
set_option linter.all false
set_option maxRecDepth 100000
set_option maxHeartbeats 4000000
/-! EwK5: what the laws of ways need: dicts with tuple keys compared, copied; tuple(reversed(list)). -/
namespace Ew
/-- alike, pair by pair, in order -/
def eqTs : List (List MK × MV) → List (List MK × MV) → Bool
  | [], [] => true
  | (k, x) :: xs, (l, y) :: ys => decide (k = l) && (isD 60 x && isD 60 y && eqD x y) && eqTs xs ys
  | _, _ => false
def opNeDT (h : MH) (x y : MV) : Option MV := match dictT h x, dictT h y with
  | some xs, some ys => if eqTs xs ys then some (.bl false) else none
  | _, _ => none
end Ew
end

section
set_option Elab.async false
set_option linter.all false
set_option maxRecDepth 100000
set_option maxHeartbeats 4000000
/-! EwK7: dict(d) of a dict with pairs of small numbers as keys; tuple(reversed(list)) as a row; except .. as e: return. -/
namespace Ew
def smallP : List MK → Bool
  | [.inl u, .inl v] => decide (0 ≤ u ∧ u < 1000 ∧ 0 ≤ v ∧ v < 1000)
  | _ => false
/-- dict(d) -/
def fDictT (h : MH) : List MV → Option MV
  | [v] => match dictT h v with
    | some kvs => if (kvs.all fun kv => smallP kv.1) = true then some (.dT kvs) else none
    | none => none
  | _ => none
/-- tuple(reversed(xs)), a list -/
def opTupRevW (h : MH) (v : MV) : Option MV := (listOf h v).map fun xs => .row xs.reverse
/-- try: b / except C as e: return what e is an instance of; e's slot i -/
def sTryAsR (n : Nat) (sub : Nat → Nat → Bool) (b : XSX) (d i : Nat) (q : Nat → Bool) : XS := fun s h => match b s h with
  | some (.ok f s', h') => some (f, s', h')
  | some (.ex c s', h') => if c < n ∧ sub c d = true ∧ i < s'.length then some (.rt (.bl (q c)), s', h') else none
  | none => none
theorem wp_tryAsR {b : XSX} {s : SM} {h : MH} {n : Nat} {sub : Nat → Nat → Bool} {d i : Nat} {q : Nat → Bool} {P : Fl → SM → MH → Prop} (w : Wx (b s h) fun o h1 => match o with
    | .ok f s1 => P f s1 h1
    | .ex c s1 => c < n ∧ sub c d = true ∧ i < s1.length ∧ P (.rt (.bl (q c))) s1 h1) : Wp (sTryAsR n sub b d i q s h) P := by
  obtain ⟨o, h1, e, q⟩ := w
  cases o with
  | ok f s1 => exact ⟨_, _, _, by simp only [sTryAsR, e], q⟩
  | ex c s1 =>
    obtain ⟨q1, q2, q3, q5⟩ := q
    exact ⟨_, _, _, by simp only [sTryAsR, e, q1, q2, q3, and_self, if_true], q5⟩
end Ew
end

section
set_option Elab.async false
set_option linter.all false
set_option maxRecDepth 100000
set_option maxHeartbeats 4000000
/-! EwQK: a dict against a number; count in a list of any things. -/
namespace PySem.SeqAt
open PySem PySem.Spec PyProof.Rows

section
variable {prog : Program} {w : World} {A : Around} {E : Value → Shared → Prop} {s : Shared}
end
end PySem.SeqAt
namespace Ew
open PySem PySem.Spec PyProof.Rows L2
variable [Tabs]
section
variable {X : Cx}
end
section
variable {X : Cx} {e o : Expr} {m mo : XE} {pos : Pos}
end
end Ew
end

section
set_option Elab.async false
set_option linter.all false
set_option maxRecDepth 100000
set_option maxHeartbeats 4000000
/-! EwQM: == of lists of dicts and data; a dict against a list. -/
namespace PySem.SeqAt
open PySem PySem.Spec PyProof.Rows
section
variable {prog : Program} {w : World} {A : Around} {E : Value → Shared → Prop} {s : Shared}
end
end PySem.SeqAt
namespace Ew
open PySem PySem.Spec PyProof.Rows L2
variable [Tabs]
section
variable {X : Cx}
end
section
variable {X : Cx} {a b : Expr} {ma mb : XE} {pos : Pos}
end
end Ew
end

section
set_option Elab.async false
set_option linter.all false
set_option maxRecDepth 100000
set_option maxHeartbeats 4000000
/-! EwTX: != of tuples of dicts and data that are equal. -/
namespace PySem.SeqAt
open AutoSeq1 (wpAny_loadPart')
open MeetsSeq MeetsSeq2 MeetsSeq3 SeqRoads2
open PySem PySem.Spec PyProof.Rows
section
variable {P0 : Program} {w0 : World}
end
end PySem.SeqAt
namespace Ew
open PySem PySem.Spec PyProof.Rows L2
variable [Tabs]
section
variable {X : Cx}
variable {a b : Expr} {ma mb : XE} {pos : Pos}
end
end Ew
end

section
set_option Elab.async false
set_option linter.all false
set_option maxRecDepth 100000
set_option maxHeartbeats 4000000
/-! EwTK: walks over the keys of a dict with tuple keys. -/
namespace PySem.W
open PySem PySem.Calls PyProof.Rows PyProof.V PySem.Spec
section
variable {prog : Program} {w : World} {A : Around} {E : Value → Shared → Prop} {s : Shared} {d : Addr}
end
end PySem.W
namespace L2
open PySem PySem.Spec PyProof.Rows
section
variable {X : Cx} {tg e : Expr} {td : TE} {apos cpos : Pos}
end
end L2
namespace Ew
open PySem PySem.Spec PyProof.Rows L2
variable [Tabs]
section
variable {X : Cx} {pos : Pos} {sts : List Stmt} {x : XS} {g : XG} {tg : Expr}
end
end Ew
end

section
set_option Elab.async false
set_option linter.all false
set_option maxRecDepth 100000
set_option maxHeartbeats 4000000
/-! EwDQ: == of dicts whose keys are tuples, alike in order. -/
namespace PySem.W
open Lean Elab Tactic Meta PySem PySem.Calls PyProof.Rows PyProof.V PySem.Spec
section
variable {prog : Program} {w : World} {K : Type} [DecidableEq K] {knd : HeapKind prog w K} {A : Around} {E : Value → Shared → Prop} {s : Shared}
theorem ew_samePairsH {nm : String} {a b : Addr} {xs ys : List (K × Addr × Value)} {Q : Bool → Shared → Prop} (hu : knd.room A) (ha : (a == sysModules) = false) (hb : (b == sysModules) = false)
    (da : s.heap.DictOfH knd a xs) (db : s.heap.DictOfH knd b ys) (hl : xs.length = ys.length) (hits : ∀ (i : Nat) (k : K) (p : Addr × Value), xs[i]? = some (k, p) → ∃ q, ys[i]? = some (k, q) ∧ SeqAt.EqAt A s p.2 q.2 true) (h : Q true s) :
    wpAny (model prog w) A (Builtin.Dict.samePairs nm a b) Q E s := by
  obtain ⟨oa, es, ep, hoa, _, hda, hea, hia, _⟩ := da
  obtain ⟨ob, es', ep', hob, _, hdb, heb, hib, hnb⟩ := db
  have hla : es.size = xs.length := size_of_entries hea
  have hlb : es'.size = ys.length := size_of_entries heb
  unfold Builtin.Dict.samePairs Builtin.Dict.showsAll
  rw [if_neg (show ¬ (a == sysModules) = true by rw [ha]; exact Bool.false_ne_true), if_neg (show ¬ (b == sysModules) = true by rw [hb]; exact Bool.false_ne_true)]
  refine wpAny_bind (wpAny_pure (wpAny_bind (wpAny_pure ?_)))
  refine wpAny_bind (wpAny_dictEntries hoa hda ?_)
  dsimp only
  refine wpAny_bind (wpAny_dictEntries hob hdb ?_)
  have hsz : es.size = es'.size := by omega
  rw [if_neg (by rw [hsz]; simp)]
  refine wpAny_bind (wpAny_dictEpoch hoa hda ?_)
  refine wpAny_bind ?_
  rw [Std.Legacy.Range.forIn_eq_forIn_range']
  simp only [Std.Legacy.Range.size, Nat.sub_zero, Nat.add_sub_cancel, Nat.div_one]
  refine wpAny_forIn_list _
    (fun rest q s' => s' = s ∧ q = (none, ()) ∧ ∃ i, rest = List.range' i (es.size - i) ∧ i ≤ es.size)
    _ ?_ ?_ _ _ ⟨rfl, rfl, 0, by simp, Nat.zero_le _⟩
  · rintro x rest q s' ⟨rfl, rfl, i, hr, hi⟩
    have hlt : i < es.size := by
      rcases Nat.lt_or_ge i es.size with h | h
      · exact h
      · rw [Nat.sub_eq_zero_of_le h] at hr; simp at hr
    obtain ⟨rfl, hrest⟩ : x = i ∧ rest = List.range' (i + 1) (es.size - (i + 1)) := by
      have e : es.size - i = (es.size - (i + 1)) + 1 := by omega
      rw [e, List.range'_succ] at hr
      injection hr with h1 h2
      exact ⟨h1, h2⟩
    refine wpAny_bind (wpAny_dictEntries hoa hda ?_)
    have hlt' : x < xs.length := by omega
    obtain ⟨k, p, hkp⟩ : ∃ k p, xs[x]? = some (k, p) := ⟨xs[x].1, xs[x].2, by rw [List.getElem?_eq_getElem hlt']⟩
    obtain ⟨q, hq, he⟩ := hits x k p hkp
    rw [entry_at hea x, hkp]
    show wpAny _ _ (holding [.ref p.1, p.2] _ >>= _) _ _ _
    have hkey := hia (k, p) (List.mem_of_getElem? hkp)
    refine wpAny_bind (wpAny_holding (wpAny_bind (wpAny_dictFind_heap hu hkey hob hdb heb hib hnb (fun no => absurd hq (no x q)) fun j p' hj => ?_)))
    have hj2 : j = x := by
      have n2 : (ys.map (·.1)).Nodup := hnb
      have e1 : (ys.map (·.1))[j]? = some k := by rw [List.getElem?_map, hj]; rfl
      have e2 : (ys.map (·.1))[x]? = some k := by rw [List.getElem?_map, hq]; rfl
      have hjl := (List.getElem?_eq_some_iff.mp e1).1
      exact (List.getElem?_inj hjl n2).mp (e1.trans e2.symm)
    subst hj2
    rw [hq] at hj
    cases hj
    refine wpAny_bind (wpAny_dictEntries hob hdb ?_)
    rw [entry_at heb j, hq]
    show wpAny _ _ (holding [q.2] _) _ _ _
    refine wpAny_holding (he prog w _ _ ?_)
    show wpAny _ _ (if (!true) = true then _ else _) _ _ _
    rw [if_neg (by decide)]
    refine wpAny_bind (wpAny_dictEpoch hoa hda ?_)
    rw [if_neg (by simp)]
    exact wpAny_pure ⟨rfl, rfl, j + 1, hrest, hlt⟩
  · rintro q s' ⟨rfl, rfl, i, hr, hi⟩
    exact wpAny_pure h
theorem ew_neH {a b : Addr} {xs ys : List (K × Addr × Value)} {Q : Value → Shared → Prop} (hu0 : A.units < cLine) (hu : knd.room A.in1) (ha : (a == sysModules) = false) (hb : (b == sysModules) = false)
    (da : s.heap.DictOfH knd a xs) (db : s.heap.DictOfH knd b ys) (hl : xs.length = ys.length) (hits : ∀ (i : Nat) (k : K) (p : Addr × Value), xs[i]? = some (k, p) → ∃ q, ys[i]? = some (k, q) ∧ SeqAt.EqAt A.in1 s p.2 q.2 true) (h : Q (.bool false) s) :
    wpAny (model prog w) A (compareOp .NotEq (.ref a) (.ref b)) Q E s := by
  refine wpAny_richCompare_same_room (op := .NotEq) da.typeIs db.typeIs PySem.F.slot_dict_ne (wpAny_call_entry PySem.F.slot_dict_ne da.typeIs PySem.F.entry_dict_ne ?_ (PySem.F.args_dict_ne_2 _ _)) hu0
  show wpAny _ _ (Builtin.Dict.dictSlotArgs "__ne__" ⟨[.ref a, .ref b], []⟩ >>= _) _ _ s
  refine wpAny_bind ?_
  unfold Builtin.Dict.dictSlotArgs
  refine wpAny_bind (wpAny_notOrdered_dict da.typeIs ?_)
  show wpAny _ _ (pure (Value.ref a, Value.ref b)) _ _ s
  refine wpAny_pure ?_
  refine wpAny_bind (wpAny_isInstance (T := "dict") db.typeIs PySem.F.sub_dict_dict ?_)
  simp only [Bool.not_true, Bool.false_eq_true, if_false]
  refine wpAny_bind (wpAny_pure (wpAny_bind (wpAny_pure ?_)))
  refine wpAny_bind (ew_samePairsH hu ha hb da db hl hits ?_)
  refine wpAny_pure ⟨_, rfl, ?_, ?_⟩
  · exact fun x => nomatch x
  · exact h
end
end PySem.W
namespace Ew
open PySem PySem.Spec PyProof.Rows L2
variable [Tabs]
/-- alike in the heap, in order -/
def PairT (K : PySem.W.Frag) (H : Hp) (p q : List Key × V) : Prop := p.1 = q.1 ∧ ∃ d e, Dp K H p.2 d ∧ Dp K H q.2 e ∧ SeqAt.shaped d = true ∧ SeqAt.shaped e = true ∧ PyData.eqv d e = true
theorem paired_get {α β : Type} {F : α → β → Prop} : ∀ {l : List α} {m : List β} {i : Nat} {x : α}, Paired F l m → l[i]? = some x → ∃ y, m[i]? = some y ∧ F x y
  | _, _, i, x, .nil, e => by simp at e
  | _, _, 0, x, .cons a b, e => by
    simp only [List.getElem?_cons_zero, Option.some.injEq] at e
    subst e
    exact ⟨_, rfl, a⟩
  | _, _, i + 1, x, .cons a b, e => by
    rw [List.getElem?_cons_succ] at e
    obtain ⟨y, e1, e2⟩ := paired_get b e
    exact ⟨y, by rw [List.getElem?_cons_succ]; exact e1, e2⟩
theorem paired_back {α β : Type} {F : α → β → Prop} : ∀ {l : List α} {m : List β} {i : Nat} {y : β}, Paired F l m → m[i]? = some y → ∃ x, l[i]? = some x ∧ F x y
  | _, _, i, x, .nil, e => by simp at e
  | _, _, 0, x, .cons a b, e => by
    simp only [List.getElem?_cons_zero, Option.some.injEq] at e
    subst e
    exact ⟨_, rfl, a⟩
  | _, _, i + 1, x, .cons a b, e => by
    rw [List.getElem?_cons_succ] at e
    obtain ⟨y, e1, e2⟩ := paired_back b e
    exact ⟨y, by rw [List.getElem?_cons_succ]; exact e1, e2⟩
section
variable {X : Cx}
theorem op_neDT (hu : X.A.in1.units + 64 < cLine) : OpR X (compareOp .NotEq) (fun x y H Q => ∃ a b ks ls, x = .ref a ∧ y = .ref b ∧ Rd H a (.dT ks) ∧ Rd H b (.dT ls) ∧ Paired (PairT X.K H) ks ls ∧ Q (.bl false) H) := by
  intro pins s σ H x y v u Q I rx ry h
  obtain ⟨a, b, ks, ls, rfl, rfl, ha, hb, hp, q⟩ := h
  cases rx
  cases ry
  have u1 : X.A.in1.units = X.A.units + 1 := rfl
  obtain ⟨_, ya, xs, ra, da⟩ := dt_rd I.hok ha
  obtain ⟨_, yb, ys, rb, db⟩ := dt_rd I.hok hb
  have l1 := Paired.length ra
  have l2 := Paired.length rb
  have l3 := Paired.length hp
  refine PySem.W.ew_neH (knd := tupleKind (mixKind X.prog X.w)) (by omega) (tupleKind_room_in1 (knd := mixKind X.prog X.w) (by omega)) ya yb da db (by omega) (fun i k p hi => ?_) ⟨.bl false, H, I, rfl, q⟩
  obtain ⟨⟨k1, v1⟩, e1, f1, _, r1⟩ := paired_back ra hi
  obtain ⟨⟨k2, v2⟩, e2, f2, d, e, d1, d2, s1, s2, eq⟩ := paired_get hp e1
  obtain ⟨⟨k3, p3⟩, e3, f3, _, r3⟩ := paired_get rb e2
  simp only at f1 f2 f3 r1 r3 d1 d2
  subst f1 f2 f3
  refine ⟨p3, e3, ?_⟩
  obtain ⟨as, q1⟩ := Dp.reads I d v1 p.2 d1 r1
  obtain ⟨bs, q2⟩ := Dp.reads I e v2 p3.2 d2 r3
  have := PySem.W.keq_at (A := X.A) q1 q2 s1 s2 hu
  rw [eq] at this
  exact this
theorem vrt_pair {K : PySem.W.Frag} {r w : List Addr} {H : Hp} : ∀ {xs ys : List (List MK × MV)} {us vs : List (List Key × V)}, VRt K r w H xs us → VRt K r w H ys vs → eqTs xs ys = true → Paired (PairT K H) us vs
  | [], [], us, vs, q1, q2, _ => by
    simp only [VRt] at q1 q2
    subst q1 q2
    exact .nil
  | [], y :: ys, us, vs, q1, q2, e => by simp [eqTs] at e
  | x :: xs, [], us, vs, q1, q2, e => by simp [eqTs] at e
  | (k, x) :: xs, (l, y) :: ys, us, vs, q1, q2, e => by
    simp only [VRt] at q1 q2
    obtain ⟨u, us, rfl, a1, b1⟩ := q1
    obtain ⟨v, vs, rfl, a2, b2⟩ := q2
    simp only [eqTs, Bool.and_eq_true, decide_eq_true_eq] at e
    obtain ⟨⟨rfl, ⟨dx, dy⟩, eq⟩, er⟩ := e
    exact .cons ⟨rfl, _, _, toP_dp K x u 60 dx a1, toP_dp K y v 60 dy a2, shaped_of dx, shaped_of dy, by rw [toP_eqv x y 60 dx dy]; exact eq⟩ (vrt_pair b1 b2 er)
variable {a b : Expr} {ma mb : XE} {pos : Pos}
theorem c_neDT {k : Nat} (hr : Room k X.A) (ha : ME X a ma) (hb : ME X b mb) : ME X (.Compare a [.NotEq] [b] pos) (xOp opNeDT ma mb) ∧ MT X (.Compare a [.NotEq] [b] pos) (xB (xOp opNeDT ma mb)) := c_cmp (op_neDT (by have := hr.un; have : X.A.in1.units = X.A.units + 1 := rfl; omega)) (fun r w h H x y v u1 u2 Q R V1 V2 e C => by
  unfold opNeDT at e
  cases e1 : dictT h x with
  | none => simp [e1] at e
  | some xs =>
    cases e2 : dictT h y with
    | none => simp [e1, e2] at e
    | some ys =>
      simp only [e1, e2] at e
      by_cases c : eqTs xs ys = true
      · rw [if_pos c] at e
        cases e
        obtain ⟨p, us, rfl, rd, c1⟩ := dictT_rd R V1 e1
        obtain ⟨q, vs, rfl, rd2, c2⟩ := dictT_rd R V2 e2
        exact ⟨p, q, us, vs, rfl, rfl, rd, rd2, vrt_pair c1 c2 c, C.now R (by simp only [VR])⟩
      · rw [if_neg c] at e
        cases e) ha hb (nomark _)
end
end Ew
end

section
set_option Elab.async false
set_option linter.all false
set_option maxRecDepth 100000
set_option maxHeartbeats 4000000
/-! EwHC: the hashes of pairs of numbers below 1000 are unalike. -/
namespace Ew
def hP1 : Nat := 11400714785074694791
def hP2 : Nat := 14029467366897019727
def hP5 : Nat := 2870177450012600261
def hM : Nat := 18446744073709551616
def hI1 : Nat := 614540362697595703
def hI2 : Nat := 839798700976720815
/-- one lane of a tuple's hash -/
def hRot (x : Nat) : Nat := (x * 2147483648) % 18446744073709551616 + x / 8589934592
def hLn (acc h : Nat) : Nat := hRot ((acc + h * hP2) % hM) * hP1 % hM
def hB (u : Nat) : Nat := hLn hP5 u * hI2 % hM
def bsL : List Nat := [7306349728055554319, 12418310136014612966, 10049765409666327412, 7996499203468434507, 5627954477120148953, 10739914885079207600, 8686648678881314695, 6318103952533029141, 4264837746335136236, 1896293019986850682, 7008253427945909329, 4639708701597623775, 2586442495399730870, 533176289201837965, 5329858177010503963, 3276591970812611058, 908047244464325504, 17301525111975984215, 3651462926075098597, 1598196719877205692, 17991674587388864403, 15623129861040578849, 2288346195290085880, 18366545542651351942, 16313279336453459037, 13944734610105173483, 609950944354680514, 17003428811866339225, 14634884085518053671, 12581617879320160766, 17378299767128826764, 15325033560930933859, 13271767354733040954, 10903222628384755400, 8849956422186862495, 13646638309995528493, 11593372103797635588, 9224827377449350034, 7171561171251457129, 12283521579210515776, 9914976852862230222, 7861710646664337317, 5493165920316051763, 10605126328275110410, 8236581601926824856, 6183315395728931951, 4130049189531039046, 8926731077339705044, 6873464871141812139, 4504920144793526585, 2451653938595633680, 7563614346554692327, 5195069620206406773, 3141803414008513868, 773258687660228314, 5885219095619286961, 3516674369271001407, 1463408163073108502, 17856886030584767213, 15488341304236481659, 2153557638485988690, 18231756985847254752, 16178490779649361847, 13809946053301076293, 475162387550583324, 16868640255062242035, 14500095528713956481, 12446829322516063576, 17243511210324729574, 15190245004126836669, 12821700277778551115, 10768434071580658210, 15880394479539716857, 13511849753191431303, 11458583546993538398, 9090038820645252844, 14201999228604311491, 12148733022406418586, 9780188296058133032, 7726922089860240127, 12523603977668906125, 10470337771471013220, 8101793045122727666, 6048526838924834761, 3995260632726941856, 8791942520535607854, 6738676314337714949, 4370131587989429395, 2316865381791536490, 7113547269600202488, 5060281063402309583, 3007014857204416678, 638470130856131124, 5750430538815189771, 3381885812466904217, 1328619606269011312, 17722097473780670023, 4072035287879784405, 2018769081681891500, 18096968429043157562, 16043702222845264657, 2393640036944379039, 340373830746486134, 16733851698258144845, 14365306971909859291, 12312040765711966386, 17108722653520632384, 15055456447322739479, 12686911720974453925, 10633645514776561020, 15745605922735619667, 13377061196387334113, 11323794990189441208, 8955250263841155654, 14067210671800214301, 11698665945451928747, 9645399739254035842, 7592133533056142937, 12388815420864808935, 10335549214666916030, 7967004488318630476, 5913738282120737571, 11025698690079796218, 8657153963731510664, 6603887757533617759, 4235343031185332205, 9347303439144390852, 6978758712796105298, 4925492506598212393, 2872226300400319488, 503681574052033934, 5615641982011092581, 3247097255662807027, 1193831049464914122, 17272030396826180184, 3937246731075687215, 1883980524877794310, 17962179872239060372, 15908913666041167467, 2258851480140281849, 205585273942388944, 16599063141454047655, 14230518415105762101, 895734749355269132, 16973934096716535194, 14920667890518642289, 12552123164170356735, 17664083572129415382, 15610817365931522477, 13242272639583236923, 11189006433385344018, 15985688321194010016, 13932422114996117111, 11563877388647831557, 9510611182449938652, 7457344976252045747, 12254026864060711745, 10200760657862818840, 7832215931514533286, 5778949725316640381, 10575631613125306379, 8522365406927413474, 6469099200729520569, 4100554474381235015, 9212514882340293662, 6843970155992008108, 4790703949794115203, 2737437743596222298, 7534119631404888296, 5480853425206995391, 3112308698858709837, 1059042492660816932, 5855724380469482930, 3802458174271590025, 1749191968073697120, 17827391315434963182, 15774125109237070277, 2124062923336184659, 70796717138291754, 16148996064499557816, 14095729858301664911, 760946192551171942, 16839145539912438004, 14785879333714545099, 12417334607366259545, 17529295015325318192, 15476028809127425287, 13107484082779139733, 11054217876581246828, 15850899764389912826, 13797633558192019921, 11429088831843734367, 9375822625645841462, 14487783033604900109, 12119238307256614555, 10065972101058721650, 7697427374710436096, 12809387782669494743, 10440843056321209189, 8387576850123316284, 6334310643925423379, 3965765917577137825, 9077726325536196472, 6709181599187910918, 4655915392990018013, 2287370666641732459, 7399331074600791106, 5346064868402898201, 2977520142054612647, 924253935856719742, 5720935823665385740, 3667669617467492835, 1614403411269599930, 17692602758630865992, 4357819092880373023, 1989274366532087469, 18382752234043746180, 16014207507695460626, 2679423841944967657, 626157635747074752, 16704356983108340814, 14651090776910447909, 1001028591009562291, 17394506458521221002, 15025961732172935448, 12972695525975042543, 10919429319777149638, 15716111207585815636, 13662845001387922731, 11294300275039637177, 9241034068841744272, 14352994476800802919, 11984449750452517365, 9931183544254624460, 7562638817906338906, 12674599225865397553, 10306054499517111999, 8252788293319219094, 6199522087121326189, 10996203974929992187, 8942937768732099282, 6574393042383813728, 4521126836185920823, 9317808723994586821, 7264542517796693916, 5211276311598801011, 2842731585250515457, 789465379052622552, 5586147266861288550, 3532881060663395645, 1164336334315110091, 17557814201826768802, 4223030536076275833, 1854485809727990279, 18247963677239648990, 15879418950891363436, 2544635285140870467, 491369078942977562, 16569568426304243624, 14516302220106350719, 866240034205465101, 17259717901717123812, 14891173175368838258, 12837906969170945353, 17949867377130004000, 15581322650781718446, 13528056444583825541, 11159511718235539987, 16271472126194598634, 13902927399846313080, 11849661193648420175, 9796394987450527270, 7427850261102241716, 12539810669061300363, 10171265942713014809, 8117999736515121904, 6064733530317228999, 10861415418125894997, 8808149211928002092, 6439604485579716538, 4386338279381823633, 9183020167190489631, 7129753960992596726, 5076487754794703821, 2707943028446418267, 7819903436405476914, 5451358710057191360, 3398092503859298455, 1029547777511012901, 6141508185470071548, 4088241979272178643, 1719697252923893089, 18113175120435551800, 4463112934534666182, 2409846728336773277, 41302001988487723, 16434779869500146434, 14381513663302253529, 731451477401367911, 17124929344913026622, 14756384618564741068, 12703118412366848163, 17815078820325906810, 15446534093977621256, 13393267887779728351, 11024723161431442797, 16136683569390501444, 13768138843042215890, 11714872636844322985, 9661606430646430080, 14458288318455096078, 12405022112257203173, 10036477385908917619, 7983211179711024714, 12779893067519690712, 10726626861321797807, 8673360655123904902, 6304815928775619348, 4251549722577726443, 9048231610386392441, 6994965404188499536, 4941699197990606631, 2573154471642321077, 7685114879601379724, 5316570153253094170, 3263303947055201265, 894759220706915711, 6006719628665974358, 3953453422468081453, 1584908696119795899, 17978386563631454610, 4328324377730568992, 2275058171532676087, 18353257518893942149, 16299991312696049244, 2965207646945556275, 596662920597270721, 16990140788108929432, 14621596061760643878, 1286812396010150909, 17365011743371416971, 15311745537173524066, 13258479330975631161, 10889934604627345607, 16001895012586404254, 13633350286238118700, 11580084080040225795, 9526817873842332890, 14323499761650998888, 12270233555453105983, 9901688829104820429, 7848422622906927524, 12645104510715593522, 10591838304517700617, 8538572098319807712, 6170027371971522158, 11281987779930580805, 8913443053582295251, 6860176847384402346, 4491632121036116792, 9603592528995175439, 7550326322797282534, 5181781596448996980, 3128515390251104075, 7925197278059770073, 5871931071861877168, 3818664865663984263, 1450120139315698709, 17843598006827357420, 4193535820926471802, 2140269614728578897, 18218468962089844959, 16165202755891952054, 2830419090141459085, 461874363793173531, 16855352231304832242, 14486807504956546688, 1152023839206053719, 17230223186567319781, 15176956980369426876, 13123690774171533971, 17920372661980199969, 15867106455782307064, 13498561729434021510, 11445295523236128605, 16241977411044794603, 14188711204846901698, 12135444998649008793, 9766900272300723239, 7713634066102830334, 12510315953911496332, 10457049747713603427, 8403783541515710522, 6035238815167424968, 11147199223126483615, 8778654496778198061, 6725388290580305156, 4356843564232019602, 9468803972191078249, 7415537765993185344, 5046993039644899790, 2993726833447006885, 7790408721255672883, 5737142515057779978, 3368597788709494424, 1315331582511601519, 6427291990470660166, 4058747264122374612, 2005481057924481707, 18083680405285747769, 4748896739535254800, 2695630533337361895, 327085806989076341, 16720563674500735052, 14352018948152449498, 1017235282401956529, 17095434629763222591, 15042168423565329686, 12988902217367436781, 17785584105176102779, 15732317898978209874, 13363773172629924320, 11310506966432031415, 16107188854240697413, 14053922648042804508, 12000656441844911603, 9632111715496626049, 14744072123455684696, 12375527397107399142, 10322261190909506237, 7953716464561220683, 13065676872520279330, 11012410666322386425, 8643865939974100871, 6590599733776207966, 11387281621584873964, 9334015415386981059, 7280749209189088154, 4912204482840802600, 2858938276642909695, 7655620164451575693, 5602353958253682788, 3233809231905397234, 1180543025707504329, 6292503433666562976, 3923958707318277422, 1870692501120384517, 17948891848481650579, 4614108182731157610, 2245563456382872056, 192297250184979151, 16585775117696637862, 2935712931795752244, 882446725597859339, 16960646072959125401, 14907379866761232496, 1572596201010739527, 17650795548372005589, 15597529342174112684, 13228984615825827130, 11175718409627934225, 15972400297436600223, 13919134091238707318, 11865867885040814413, 9497323158692528859, 14609283566651587506, 12240738840303301952, 10187472634105409047, 7818927907757123493, 12930888315716182140, 10877622109518289235, 8509077383170003681, 6455811176972110776, 11252493064780776774, 9199226858582883869, 6830682132234598315, 4777415926036705410, 9889376333995764057, 7520831607647478503, 5467565401449585598, 3099020675101300044, 8210981083060358691, 6157714876862465786, 3789170150514180232, 1735903944316287327, 17814103291677553389, 4479319625927060420, 2110774899578774866, 57508693380881961, 16450986560892540672, 2800924374991655054, 747658168793762149, 16825857516155028211, 14772591309957135306, 1122529124056249688, 17516006991567908399, 15462740785370015494, 13094196059021729940, 18206156466980788587, 15837611740632503033, 13784345534434610128, 11731079328236717223, 16527761216045383221, 14474495009847490316, 12105950283499204762, 10052684077301311857, 14849365965109977855, 12796099758912084950, 10742833552714192045, 8374288826365906491, 6321022620168013586, 11117704507976679584, 9064438301778786679, 6695893575430501125, 4642627369232608220, 9754587777191666867, 7386043050843381313, 5332776844645488408, 2964232118297202854, 8076192526256261501, 5707647799907975947, 3654381593710083042, 1601115387512190137, 6397797275320856135, 4344531069122963230, 1975986342774677676, 18369464210286336387, 5034680544535843418, 2666135818187557864, 612869611989664959, 16691068959350931021, 14637802753153038116, 987740567252152498, 17381218434763811209, 15327952228565918304, 12959407502217632750, 18071367910176691397, 15702823183828405843, 13649556977630512938, 11281012251282227384, 16392972659241286031, 14339706453043393126, 11971161726695107572, 9917895520497214667, 14714577408305880665, 12661311202107987760, 10608044995910094855, 8239500269561809301, 13351460677520867948, 10982915951172582394, 8929649744974689489, 6561105018626403935, 11673065426585462582, 9619799220387569677, 7251254494039284123, 5197988287841391218, 2829443561493105664, 7941403969452164311, 5572859243103878757, 3519593036905985852, 1466326830708092947, 6263008718516758945, 4209742512318866040, 1841197785970580486, 18234675653482239197, 4584613467581353579, 2531347261383460674, 478081055185567769, 16556280402546833831, 3221496736796340862, 852952010448055308, 17246429877959714019, 15193163671761821114, 1543101485860935496, 17936579353372594207, 15568034627024308653, 13514768420826415748, 18311450308635081746, 16258184102437188841, 14204917896239295936, 11836373169891010382, 9783106963693117477, 14579788851501783475, 12526522645303890570, 10157977918955605016, 8104711712757712111, 13216672120716770758, 10848127394368485204, 8794861188170592299, 6426316461822306745, 11538276869781365392, 9485010663583472487, 7116465937235186933, 5063199731037294028, 9859881618845960026, 7806615412648067121, 5438070686299781567, 3384804480101888662, 8496764888060947309, 6128220161712661755, 4074953955514768850, 1706409229166483296, 18099887096678142007, 4449824910777256389, 2396558704579363484, 343292498381470579, 16421491845742736641, 3086708179992243672, 718163453643958118, 17111641321155616829, 14743096594807331275, 1408312929056838306, 17801790796568497017, 15433246070220211463, 13379979864022318558, 18176661751830984556, 16123395545633091651, 14070129339435198746, 11701584613086913192, 16813545021045971839, 14445000294697686285, 12391734088499793380, 10023189362151507826, 15135149770110566473, 13081883563912673568, 10713338837564388014, 8660072631366495109, 6291527905018209555, 11403488312977268202, 9034943586628982648, 6981677380431089743, 4928411174233196838, 9725093062041862836, 7671826855843969931, 5303282129495684377, 3250015923297791472, 8361976331256850119, 5993431604908564565, 3940165398710671660, 1571620672362386106, 6683581080321444753, 4315036353973159199, 2261770147775266294, 208503941577373389, 5005185829386039387, 2951919623188146482, 583374896839860928, 16976852764351519639, 3326790578450634021, 1273524372252741116, 17667002239764399827, 15298457513416114273, 13245191307218221368, 18041873195026887366, 15988606988828994461, 13935340782631101556, 11566796056282816002, 16678756464241874649, 14310211737893589095, 12256945531695696190, 9888400805347410636, 15000361213306469283, 12947095007108576378, 10578550280760290824, 8525284074562397919, 13321965962371063917, 11268699756173171012, 8900155029824885458, 6846888823626992553, 11958849231586051200, 9590304505237765646, 7537038299039872741, 5168493572691587187, 10280453980650645834, 7911909254302360280, 5858643048104467375, 3805376841906574470, 1436832115558288916, 6548792523517347563, 4180247797169062009, 2126981590971169104, 73715384773276199, 4870397272581942197, 2817131066384049292, 448586340035763738, 16842064207547422449, 3192002021646536831, 1138735815448643926, 17532213682960302637, 15163668956612017083, 1828885290861524114, 17907084638222790176, 15853818432024897271, 13485273705676611717, 150490039926118748, 16543967907437777459, 14175423181089491905, 12122156974891599000, 9753612248543313446, 14865572656502372093, 12812306450304479188, 10443761723956193634, 8390495517758300729, 13187177405566966727, 11133911199369073822, 8765366473020788268, 6712100266822895363, 11824060674781954010, 9455515948433668456, 7402249742235775551, 5033705015887489997, 10145665423846548644, 7777120697498263090, 5723854491300370185, 3670588285102477280, 8467270172911143278, 6414003966713250373, 4045459240364964819, 1992193034167071914, 6788874921975737912, 4735608715777845007, 2682342509579952102, 313797783231666548, 16707275650743325259, 3057213464842439641, 1003947258644546736, 17397425126156205447, 15028880399807919893, 1694096734057426924, 17772296081418692986, 15719029875220800081, 13350485148872514527, 15701483122021558, 16409179350633680269, 14040634624285394715, 11987368418087501810, 16784050305896167808, 14730784099698274903, 12362239373349989349, 10308973167152096444, 15420933575111155091, 13052388848762869537, 10999122642564976632, 8630577916216691078, 13742538324175749725, 11689272117977856820, 9320727391629571266, 7267461185431678361, 4898916459083392807, 10010876867042451454, 7642332140694165900, 5589065934496272995, 3535799728298380090, 8332481616107046088, 6279215409909153183, 3910670683560867629, 1857404477362974724, 6654086365171640722, 4600820158973747817, 2547553952775854912, 179009226427569358, 5290969634386628005, 2922424908038342451, 869158701840449546, 16947358049201715608, 3612574383451222639, 1559308177253329734, 17637507524614595796, 15584241318416702891, 13215696592068417337, 18327657000027475984, 16274390793829583079, 13905846067481297525, 11852579861283404620, 16649261749092070618, 14595995542894177713, 12227450816545892159, 10174184610347999254, 15286145018307057901, 12917600291958772347, 10864334085760879442, 8495789359412593888, 13607749767371652535, 11239205041023366981, 9185938834825474076, 7132672628627581171, 11929354516436247169, 9876088310238354264, 7507543583890068710, 5454277377692175805, 10566237785651234452, 8197693059302948898, 6144426853105055993, 3775882126756770439, 1722615920558877534, 6519297808367543532, 4466031602169650627, 2412765395971757722, 44220669623472168, 5156181077582530815, 2787636351234245261, 734370145036352356, 16812569492397618418, 3477785826647125449, 1424519620449232544, 17502718967810498606, 15449452761612605701, 1799390575711720083, 18192868443223378794, 15824323716875093240, 13771057510677200335, 436273844926707366, 16514473192287973428, 14461206986090080523, 12092662259741794969, 17204622667700853616, 15151356461502960711, 12782811735154675157, 10729545528956782252, 8361000802608496698, 13472961210567555345, 11104416484219269791, 9051150278021376886, 6997884071823483981, 11794565959632149979, 9741299753434257074, 7372755027085971520, 5319488820888078615, 10116170708696744613, 8062904502498851708, 6009638296300958803, 3641093569952673249, 8753053977911731896, 6384509251563446342, 4331243045365553437, 2277976839167660532, 7074658726976326530, 5021392520778433625, 2652847794430148071, 599581588232255166, 16677780935593521228, 3342997269843028259, 1289731063645135354, 17367930411006401416, 15314664204808508511, 1664602018907622893, 18058079886419281604, 15689535160070996050, 13636268953873103145, 301485288122610176, 16379684635483876238, 14326418429285983333, 11957873702937697779, 17069834110896756426, 14701289384548470872, 12648023178350577967, 10594756972152685062, 15391438859961351060, 13338172653763458155, 10969627927415172601, 8916361721217279696, 14028322129176338343, 11659777402828052789, 9606511196630159884, 7237966470281874330, 5184700264083981425, 9981382151892647423, 7928115945694754518, 5874849739496861613, 3506305013148576059, 8618265421107634706, 6249720694759349152, 4196454488561456247, 1827909762213170693, 6939870170172229340, 4886603963974336435, 2518059237626050881, 464793031428157976, 5261474919236823974, 3208208713038931069, 1154942506841038164, 17233141854202304226, 3898358188451811257, 1529813462103525703, 17923291329615184414, 15554746603266898860, 2219962937516405891, 166696731318512986, 16244896078679779048, 14191629872481886143, 11823085146133600589, 16935045554092659236, 14566500827744373682, 12513234621546480777, 10459968415348587872, 15256650303157253870, 13203384096959360965, 10834839370611075411, 8781573164413182506, 13578255052221848504, 11524988846023955599, 9471722639826062694, 7103177913477777140, 12215138321436835787, 9846593595088550233, 7793327388890657328, 5740061182692764423, 10536743070501430421, 8483476864303537516, 6114932137955251962, 4061665931757359057, 1693121205409073503, 6805081613368132150, 4751815407170239245, 2383270680821953691, 330004474624060786, 5126686362432726784, 3073420156234833879, 704875429886548325, 17098353297398207036, 3763569631647714067, 1395024905299428513, 17788502772811087224, 15419958046462801670, 2085174380712308701, 31908174514415796, 16110107521875681858, 14056841315677788953, 406779129776903335, 16800256997288562046, 14431712270940276492, 12378446064742383587, 17490406472701442234, 15121861746353156680, 13068595540155263775, 10700050813806978221, 8646784607609085316, 13443466495417751314, 11390200289219858409, 9336934083021965504, 6968389356673679950, 12080349764632738597, 9711805038284453043, 7658538832086560138, 5289994105738274584, 10401954513697333231, 8348688307499440326, 5980143581151154772, 3926877374953261867, 8723559262761927865, 6670293056564034960, 4617026850366142055, 2248482124017856501, 7360442531976915148, 4991897805628629594, 2938631599430736689, 570086873082451135, 5682047281041509782, 3628781074843616877, 1260236348495331323, 17653714216006990034, 15285169489658704480, 1950385823908211511, 18028585171269477573, 15975318965071584668, 13922052758873691763, 271990572972806145, 16665468440484464856, 14296923714136179302, 12243657507938286397, 17355617915897345044, 14987073189549059490, 12933806983351166585, 10565262257002881031, 15677222664961939678, 13308677938613654124, 11255411732415761219, 9202145526217868314, 13998827414026534312, 11945561207828641407, 9577016481480355853, 7523750275282462948, 5155205548934177394, 10267165956893236041, 8213899750695343136, 5845355024347057582, 3792088818149164677, 8588770705957830675, 6535504499759937770, 4166959773411652216, 2113693567213759311, 7225653975172817958, 4857109248824532404, 2803843042626639499, 435298316278353945, 5547258724237412592, 3493992518039519687, 1125447791691234133, 17518925659202892844, 3868863473302007226]
def farB (x y : Nat) : Bool := Nat.ble 1000 ((x + 18446744073709551616 - y) % 18446744073709551616) && Nat.ble ((x + 18446744073709551616 - y) % 18446744073709551616) 18446744073709550616
def pwB : List Nat → Bool
  | [] => true
  | x :: r => r.all (farB x) && pwB r
theorem bs_ok : (List.range 1000).map hB = bsL := by decide +kernel
theorem pw_ok : pwB bsL = true := by decide +kernel
def spB (x : Nat) : Bool := Nat.ble 1000 ((15746002411462551884 + 18446744073709551616 - x) % 18446744073709551616)
theorem sp_ok : bsL.all spB = true := by decide +kernel
theorem rot_eq (x : Nat) : hRot x = x % 8589934592 * 2147483648 + x / 8589934592 := by
  unfold hRot
  rw [show (18446744073709551616 : Nat) = 8589934592 * 2147483648 from rfl, Nat.mul_mod_mul_right]
theorem rot_inj {x y : Nat} (hx : x < 18446744073709551616) (hy : y < 18446744073709551616) (e : hRot x = hRot y) : x = y := by
  rw [rot_eq, rot_eq] at e
  have dx := Nat.div_add_mod x 8589934592
  have dy := Nat.div_add_mod y 8589934592
  have bx : x / 8589934592 < 2147483648 := by omega
  have bY : y / 8589934592 < 2147483648 := by omega
  generalize x % 8589934592 = a at *
  generalize y % 8589934592 = b at *
  generalize x / 8589934592 = c at *
  generalize y / 8589934592 = d at *
  have : a = b := by omega
  have : c = d := by omega
  omega
theorem rot_lt {x : Nat} (hx : x < 18446744073709551616) : hRot x < 18446744073709551616 := by
  rw [rot_eq]
  have bx : x / 8589934592 < 2147483648 := by omega
  have ax := Nat.mod_lt x (show 0 < 8589934592 by omega)
  omega
theorem mul_back {x i p q : Nat} (e : p * i = 18446744073709551616 * q + 1) : x * p % 18446744073709551616 * i % 18446744073709551616 = x % 18446744073709551616 := by
  rw [Nat.mod_mul_mod, Nat.mul_assoc, e, Nat.mul_add, Nat.mul_one, Nat.mul_left_comm, Nat.mul_add_mod]
theorem ln_inj {a a' v v' : Nat} (e : hLn a v = hLn a' v') : (a + v * hP2) % hM = (a' + v' * hP2) % hM := by
  unfold hLn hM at e
  have hx : (a + v * hP2) % 18446744073709551616 < 18446744073709551616 := Nat.mod_lt _ (by omega)
  have hy : (a' + v' * hP2) % 18446744073709551616 < 18446744073709551616 := Nat.mod_lt _ (by omega)
  unfold hM
  generalize (a + v * hP2) % 18446744073709551616 = x at *
  generalize (a' + v' * hP2) % 18446744073709551616 = y at *
  have b1 : hP1 * hI1 = 18446744073709551616 * 379806830464837242 + 1 := by decide +kernel
  have e1 := mul_back (x := hRot x) b1
  have e2 := mul_back (x := hRot y) b1
  rw [e, e2] at e1
  rw [Nat.mod_eq_of_lt (rot_lt hx), Nat.mod_eq_of_lt (rot_lt hy)] at e1
  exact rot_inj hx hy e1.symm
theorem lane_b {a v : Nat} : (a + v * hP2) % hM * hI2 % hM = (a * hI2 % hM + v) % hM := by
  have b2 : hP2 * hI2 = 18446744073709551616 * 638699622168397319 + 1 := by decide +kernel
  unfold hM
  rw [Nat.mod_mul_mod, Nat.add_mul, Nat.mul_assoc, b2, Nat.mul_add, Nat.mul_one, Nat.mul_left_comm, ← Nat.add_assoc]
  rw [show a * hI2 + 18446744073709551616 * (v * 638699622168397319) + v = 18446744073709551616 * (v * 638699622168397319) + (a * hI2 + v) by omega, Nat.mul_add_mod, Nat.add_mod, Nat.add_mod (a * hI2 % 18446744073709551616) v, Nat.mod_mod]
theorem pw_get : ∀ {l : List Nat} {i j : Nat} {x y : Nat}, pwB l = true → l[i]? = some x → l[j]? = some y → i < j → farB x y = true
  | [], i, j, x, y, _, e, _, _ => by simp at e
  | z :: l, 0, j + 1, x, y, h, e1, e2, _ => by
    simp only [pwB, Bool.and_eq_true] at h
    simp only [List.getElem?_cons_zero, Option.some.injEq] at e1
    rw [List.getElem?_cons_succ] at e2
    subst e1
    exact List.all_eq_true.mp h.1 y (List.mem_of_getElem? e2)
  | z :: l, i + 1, j + 1, x, y, h, e1, e2, lt => by
    simp only [pwB, Bool.and_eq_true] at h
    rw [List.getElem?_cons_succ] at e1 e2
    exact pw_get h.2 e1 e2 (by omega)
theorem bs_get {u : Nat} (h : u < 1000) : bsL[u]? = some (hB u) := by
  rw [← bs_ok, List.getElem?_map, List.getElem?_range h]
  rfl
theorem hB_lt (u : Nat) : hB u < 18446744073709551616 := Nat.mod_lt _ (by decide)
theorem far_uv {u u' v v' : Nat} (hu : u < 1000) (hu' : u' < 1000) (hv : v < 1000) (hv' : v' < 1000) (lt : u < u') : (hB u + v) % 18446744073709551616 ≠ (hB u' + v') % 18446744073709551616 := fun e => by
  have f := pw_get pw_ok (bs_get hu) (bs_get hu') lt
  unfold farB at f
  rw [Bool.and_eq_true, Nat.ble_eq, Nat.ble_eq] at f
  have h1 := hB_lt u
  have h2 := hB_lt u'
  generalize hB u = x at *
  generalize hB u' = y at *
  obtain ⟨f1, f2⟩ := f
  omega
theorem ln2_inj {u u' v v' : Nat} (hu : u < 1000) (hu' : u' < 1000) (hv : v < 1000) (hv' : v' < 1000) (e : hLn (hLn hP5 u) v = hLn (hLn hP5 u') v') : u = u' ∧ v = v' := by
  have e1 := ln_inj e
  have a := lane_b (a := hLn hP5 u) (v := v)
  have b := lane_b (a := hLn hP5 u') (v := v')
  rw [e1, b] at a
  have a : (hB u' + v') % 18446744073709551616 = (hB u + v) % 18446744073709551616 := a
  rcases Nat.lt_trichotomy u u' with q | q | q
  · exact absurd a.symm (far_uv hu hu' hv hv' q)
  · subst q
    have h1 := hB_lt u
    generalize hB u = x at *
    refine ⟨rfl, ?_⟩
    omega
  · exact absurd a (far_uv hu' hu hv' hv q)
open PySem PySem.Spec L2
/-- the hash of a pair of numbers below 1000 -/
def hPair (u v : Nat) : Nat := (hLn (hLn hP5 u) v + 2870177450013471924) % 18446744073709551616
theorem lane_lt (a v : Nat) : hLn a v < 18446744073709551616 := Nat.mod_lt _ (by decide)
theorem hPair_inj {u u' v v' : Nat} (hu : u < 1000) (hu' : u' < 1000) (hv : v < 1000) (hv' : v' < 1000) (e : hPair u v = hPair u' v') : u = u' ∧ v = v' := by
  refine ln2_inj hu hu' hv hv' ?_
  unfold hPair at e
  have h1 := lane_lt (hLn hP5 u) v
  have h2 := lane_lt (hLn hP5 u') v'
  generalize hLn (hLn hP5 u) v = x at *
  generalize hLn (hLn hP5 u') v' = y at *
  omega
end Ew
end

section
set_option Elab.async false
set_option linter.all false
set_option maxRecDepth 100000
set_option maxHeartbeats 4000000
/-! EwHD: dict(d), d with pairs of numbers below 1000 as keys. -/
namespace Ew
open PySem PySem.Spec L2
def thG (m p1 p2 p5 k31 k33 k63 : Nat) (hashes : List Int) : Int :=
  let acc := hashes.foldl (init := p5) fun acc h =>
    let acc := (acc + (h % (m : Int)).toNat * p2) % m
    let acc := (acc * k31) % m + acc / k33
    (acc * p1) % m
  let acc := (acc + (hashes.length ^^^ (p5 ^^^ 3527539))) % m
  if acc == m - 1 then 1546275796 else if acc < k63 then acc else (acc : Int) - m
theorem thG_eq (l : List Int) : Builtin.Tuple.tupleHashOf l = thG (2 ^ 64) 11400714785074694791 14029467366897019727 2870177450012600261 (2 ^ 31) (2 ^ 33) (2 ^ 63) l := by
  unfold Builtin.Tuple.tupleHashOf thG
  rfl
def thF (m p1 p2 k31 k33 acc : Nat) (h : Int) : Nat :=
    let acc := (acc + (h % (m : Int)).toNat * p2) % m
    let acc := (acc * k31) % m + acc / k33
    (acc * p1) % m
def thE (m x k63 l : Nat) : Int := if x == l then 1546275796 else if x < k63 then (x : Int) else (x : Int) - (m : Int)
theorem thG_two (m p1 p2 p5 k31 k33 k63 : Nat) (a b : Int) : thG m p1 p2 p5 k31 k33 k63 [a, b] =
  thE m ((thF m p1 p2 k31 k33 (thF m p1 p2 k31 k33 p5 a) b + (2 ^^^ (p5 ^^^ 3527539))) % m) k63 (m - 1) := rfl
theorem thF_int {acc u : Nat} (hu : u < 1000) : thF hM hP1 hP2 2147483648 8589934592 acc (u : Int) = hLn acc u := by
  have e : ((u : Int) % (hM : Int)).toNat = u := by
    have : (hM : Int) = 18446744073709551616 := rfl
    rw [this]
    omega
  unfold thF
  simp only [e]
  rfl
theorem hc_eq : (2 : Nat) ^^^ (hP5 ^^^ 3527539) = 2870177450013471924 := by decide +kernel
theorem hm_eq : (2 : Nat) ^ 64 = hM := by decide +kernel
theorem h31_eq : (2 : Nat) ^ 31 = 2147483648 := by decide +kernel
theorem h33_eq : (2 : Nat) ^ 33 = 8589934592 := by decide +kernel
theorem hp_eq : (2 : Nat) ^ 63 = 9223372036854775808 := by decide +kernel
theorem hl_eq : hM - 1 = 18446744073709551615 := by decide +kernel
theorem thG_nat (P1 P2 P5 : Nat) (e1 : P1 = hP1) (e2 : P2 = hP2) (e5 : P5 = hP5) {u v : Nat} (hu : u < 1000) (hv : v < 1000) : thG (2 ^ 64) P1 P2 P5 (2 ^ 31) (2 ^ 33) (2 ^ 63) [(u : Int), (v : Int)] = thE hM (hPair u v) 9223372036854775808 18446744073709551615 := by
  rw [thG_two, hm_eq, h31_eq, h33_eq, hp_eq, hl_eq, e1, e2, e5, hc_eq, thF_int hu, thF_int hv]
  unfold hPair
  rfl
theorem hash_nat {u v : Nat} (hu : u < 1000) (hv : v < 1000) : Builtin.Tuple.tupleHashOf [(u : Int), (v : Int)] = thE hM (hPair u v) 9223372036854775808 18446744073709551615 := (thG_eq _).trans (thG_nat _ _ _ rfl rfl rfl hu hv)
/-- that value is never met -/
theorem no_special {u v : Nat} (hu : u < 1000) (hv : v < 1000) : hPair u v ≠ 18446744073709551615 := fun e => by
  have sp := List.all_eq_true.mp sp_ok (hB u) (List.mem_of_getElem? (bs_get hu))
  unfold spB at sp
  rw [Nat.ble_eq] at sp
  have h1 := lane_lt (hLn hP5 u) v
  unfold hPair at e
  have e2 : hLn (hLn hP5 u) v = 15576566623696079691 := by omega
  have hx : (hLn hP5 u + v * hP2) % hM < 18446744073709551616 := Nat.mod_lt _ (by decide)
  have b1 : hP1 * hI1 = 18446744073709551616 * 379806830464837242 + 1 := by decide +kernel
  have e3 := mul_back (x := hRot ((hLn hP5 u + v * hP2) % hM)) b1
  have e4 : hRot ((hLn hP5 u + v * hP2) % hM) * hP1 % 18446744073709551616 = 15576566623696079691 := e2
  rw [e4, Nat.mod_eq_of_lt (rot_lt hx)] at e3
  have e5 : hRot ((hLn hP5 u + v * hP2) % hM) = hRot 9148689060682678900 := by rw [← e3]; decide +kernel
  have e6 := rot_inj hx (by decide) e5
  have e7 := lane_b (a := hLn hP5 u) (v := v)
  rw [e6] at e7
  have e8 : (hB u + v) % 18446744073709551616 = 15746002411462551884 := by
    have : 9148689060682678900 * hI2 % hM = 15746002411462551884 := by decide +kernel
    rw [this] at e7
    exact e7.symm
  have h2 := hB_lt u
  generalize hB u = x at *
  omega
theorem hash_inj {u v u' v' : Nat} (hu : u < 1000) (hv : v < 1000) (hu' : u' < 1000) (hv' : v' < 1000) (e : Builtin.Tuple.tupleHashOf [(u : Int), (v : Int)] = Builtin.Tuple.tupleHashOf [(u' : Int), (v' : Int)]) : u = u' ∧ v = v' := by
  rw [hash_nat hu hv, hash_nat hu' hv'] at e
  unfold thE at e
  rw [show (hM : Int) = 18446744073709551616 from rfl] at e
  have s1 := no_special hu hv
  have s2 := no_special hu' hv'
  have b1 : hPair u v < 18446744073709551616 := Nat.mod_lt _ (by decide)
  have b2 : hPair u' v' < 18446744073709551616 := Nat.mod_lt _ (by decide)
  refine hPair_inj hu hu' hv hv' ?_
  have f : ∀ x : Nat, x ≠ 18446744073709551615 → (if x == 18446744073709551615 then (1546275796 : Int) else if x < 9223372036854775808 then (x : Int) else (x : Int) - 18446744073709551616) = if x < 9223372036854775808 then (x : Int) else (x : Int) - 18446744073709551616 := fun x h => by
    rw [if_neg (by simpa using h)]
  rw [f _ s1, f _ s2] at e
  generalize hPair u v = x at *
  generalize hPair u' v' = y at *
  split at e <;> split at e <;> omega
end Ew
end

section
set_option Elab.async false
set_option linter.all false
set_option maxRecDepth 100000
set_option maxHeartbeats 4000000
/-! EwK6: sorted(d.keys(), key=lambda x: ..). -/
namespace Ew
open PySem PySem.Spec PyProof.Rows L2 NdefX LamX
variable [Tabs]
section
variable {X : Cx} {N fr : List Str} {p : Str} {js : List Nat} {params : Arguments} {body o : Expr} {scope : Scope} {c P : Addr} {k n : Nat} {mo mb : XE} {p1 pos lpos kpos apos p2 : Pos}
end
end Ew
end

section
set_option Elab.async false
set_option linter.all false
set_option maxRecDepth 100000
set_option maxHeartbeats 4000000
/-! EwXB: the bridge of what may be raised. -/
namespace L2
open PySem PySem.Spec PyProof.Rows
section
variable {X : Cx} {C : Addr} {bmB : List Value} {B newId initId : String}
/-- X() of an own class -/
theorem pmk_own0 {x : Str} {p pos : Pos} (F : ExcBaseFacts B newId initId bmB) (q : PySem.W.excIn X.K C bmB newId = true) (gC : X.mg x = some (.ref C)) (kC : PySem.W.keepIn X.K (.ref C) = true) (r : Raises X (.ref C)) (hg : Gl X x)
    (hdb : (x == ("__debug__" : Str)) = false := by decide +kernel) : PMk X (.Call (.Name x p) [] [] pos) (fun _ H Q => Q (.ref C) none H) := by
  intro pins s σ H Q I h
  refine wpAny_Call_Name_kw (ld_glob I hg gC ?_ hdb)
  refine PySem.W.callWith_K0 I.kIn kC ?_
  show wpAny _ _ (call (.ref C) []) _ _ _
  obtain ⟨bm, N, nm, qn, bs, hdct, sn, sub, ab, col, dd, k0, k1, k2, k3, k5, mN, hC, hN, hni, T⟩ := exc_obj I.kIn q
  refine wpAny_call_exc_subT F T hC hN hni (fun h' e hm => ?_) (by show 0 ≤ sizeLine; omega)
  exact mk_of I hm r h (I.hok.gone hm.new)
end
end L2
namespace Ew
open PySem PySem.Spec PyProof.Rows L2
variable [Tabs]
section
variable (cv : Nat → Value) (K : PySem.W.Frag) (W : WX)
def EndX (r w : List Addr) (h' : MH) (H : Hp) (D : Ends) : OX → Prop
  | .ok f s' => EndS K r w h' H s' D f
  | .ex c s' => ∀ r' z' H', Fwd r H r' H' → Rel K r' w h' H' → SR K r' w H' s' z' → W (cv c) none z' H'
def tX (m : XSX) : TS := fun D z H => ∃ r w s h o h', Rel K r w h H ∧ SR K r w H s z ∧ m s h = some (o, h') ∧ EndX cv K W r w h' H D o
def spX (n : Nat) (g : FnX) : Sp := fun us H Q E => us.length = n ∧ ∃ r w h vs o h', Rel K r w h H ∧ VRs K r w H vs us ∧ g vs h = some (o, h') ∧ match o with
  | .val v => Cont K r w h' H v Q
  | .ex c => ∀ r' H', Fwd r H r' H' → Rel K r' w h' H' → E (cv c) none H'
end
theorem EndX.fwd {cv : Nat → Value} {K : PySem.W.Frag} {W : WX} {r r1 w : List Addr} {h1 h' : MH} {H H1 : Hp} {D : Ends} {o : OX} (C : EndX cv K W r w h' H D o) (F : Fwd r H r1 H1) (R1 : Rel K r1 w h1 H1) : EndX cv K W r1 w h' H1 D o := by
  cases o with
  | ok f s' => exact EndS.fwd C F R1
  | ex c s' => exact fun r' z' H' F' R' S' => C r' z' H' (F.tr R1 F') R' S'
abbrev MX (cv : Nat → Value) (X : Cx) (W : WX) (st : Stmt) (m : XSX) : Prop := PS X st (tX cv X.K W m)
abbrev MXs (cv : Nat → Value) (X : Cx) (W : WX) (st : List Stmt) (m : XSX) : Prop := PSs X st (tX cv X.K W m)
/-- what is known of an own class of exceptions -/
structure XcOk (K : PySem.W.Frag) (mg : Str → Option Value) (x : Str) (C : Addr) : Prop where
  g : mg x = some (.ref C)
  q : PySem.W.excIn K C [.type "ValueError", .type "Exception", .type "BaseException", .type "object"] "ValueError.__new__" = true
  k : PySem.W.keepIn K (.ref C) = true
  b : PySem.W.subIn K (.ref C) (.type "BaseException") = some true
  t : PySem.W.typeIn K (.ref C) = some (.type "type")
theorem exm_of {K : PySem.W.Frag} {C D : Addr} {k : Bool} (h1 : PySem.W.subIn K (.ref D) (.type "BaseException") = some true) (h2 : PySem.W.isClsIn K D = true) (h3 : PySem.W.typeIn K (.ref D) = some (.type "type")) (h4 : PySem.W.subIn K (.ref C) (.ref D) = some k) :
    PySem.W.exmOne K (.ref C) (.ref D) = some k := by
  have e1 : (PySem.W.subIn K (.ref D) (.type "BaseException") == some true) = true := by rw [h1] <;> rfl
  have e2 : ((PySem.W.clsIn K D).isSome && PySem.W.typeIn K (.ref D) == some (.type "type")) = true := by
    rw [h3]
    have : (PySem.W.clsIn K D).isSome = true := h2
    rw [this] <;> rfl
  show (if (PySem.W.subIn K (.ref D) (.type "BaseException") == some true) = true then (if ((PySem.W.clsIn K D).isSome && PySem.W.typeIn K (.ref D) == some (.type "type")) = true then PySem.W.subIn K (.ref C) (.ref D) else none) else none) = some k
  rw [if_pos e1, if_pos e2, h4]
section
variable {cv : Nat → Value} {X : Cx} {W : WX} {st : Stmt} {sts sts2 : List Stmt} {x y : XSX} {m : XS} {c : Expr} {ta : XT} {pos : Pos}
theorem mx_lift (h : MS X st m) : MX cv X W st (liftX m) := PS.wk h fun D z H ⟨r, w, s, hh, o, h', R, S, e, C⟩ => by
  unfold liftX at e
  split at e
  · rename_i f s' h1 e1
    simp only [Option.some.injEq, Prod.mk.injEq] at e
    obtain ⟨rfl, rfl⟩ := e
    exact ⟨r, w, s, hh, f, s', _, R, S, e1, C⟩
  · cases e
theorem mxs_lift (h : MSs X sts m) : MXs cv X W sts (liftX m) := PSs.wk h fun D z H ⟨r, w, s, hh, o, h', R, S, e, C⟩ => by
  unfold liftX at e
  split at e
  · rename_i f s' h1 e1
    simp only [Option.some.injEq, Prod.mk.injEq] at e
    obtain ⟨rfl, rfl⟩ := e
    exact ⟨r, w, s, hh, f, s', _, R, S, e1, C⟩
  · cases e
theorem mxs_one (h : MX cv X W st x) : MXs cv X W [st] x := pss_one h
theorem mxs_cons (h1 : MX cv X W st x) (h2 : MXs cv X W sts y) : MXs cv X W (st :: sts) (seqX x y) := PSs.wk (pss_cons h1 h2) fun D z H ⟨r, w, s, h, o, h', R, S, e, C⟩ => by
  unfold seqX at e
  cases e1 : x s h with
  | none => simp [e1] at e
  | some p1 =>
    obtain ⟨o1, h1⟩ := p1
    cases o1 with
    | ok f1 s1 =>
      cases f1 with
      | nx =>
        simp only [e1] at e
        exact ⟨r, w, s, h, .ok .nx s1, h1, R, S, e1, fun r1 z1 H1 F1 R1 S1 => ⟨r1, w, s1, h1, o, h', R1, S1, e, EndX.fwd C F1 R1⟩⟩
      | rt v =>
        simp only [e1, Option.some.injEq, Prod.mk.injEq] at e
        obtain ⟨rfl, rfl⟩ := e
        exact ⟨r, w, s, h, .ok (.rt v) s1, _, R, S, e1, C⟩
      | bk =>
        simp only [e1, Option.some.injEq, Prod.mk.injEq] at e
        obtain ⟨rfl, rfl⟩ := e
        exact ⟨r, w, s, h, .ok .bk s1, _, R, S, e1, C⟩
      | ct =>
        simp only [e1, Option.some.injEq, Prod.mk.injEq] at e
        obtain ⟨rfl, rfl⟩ := e
        exact ⟨r, w, s, h, .ok .ct s1, _, R, S, e1, C⟩
    | ex k s1 =>
      simp only [e1, Option.some.injEq, Prod.mk.injEq] at e
      obtain ⟨rfl, rfl⟩ := e
      exact ⟨r, w, s, h, .ex k s1, _, R, S, e1, C⟩
theorem mx_if (hc : MT X c ta) (h1 : MXs cv X W sts x) (h2 : MXs cv X W sts2 y) : MX cv X W (.If c sts sts2 pos) (ifX ta x y) := PS.wk (ps_if hc h1 h2) fun D z H ⟨r, w, s, h, o, h', R, S, e, C⟩ => by
  unfold ifX at e
  split at e
  · cases e
  · rename_i h1 e1
    exact ⟨r, w, s, h, _, h1, R, S, e1, fun r1 H1 F1 R1 => iteT ⟨r1, w, s, h1, o, h', R1, S.fwd F1, e, EndX.fwd C F1 R1⟩⟩
  · rename_i h1 e1
    exact ⟨r, w, s, h, _, h1, R, S, e1, fun r1 H1 F1 R1 => iteF ⟨r1, w, s, h1, o, h', R1, S.fwd F1, e, EndX.fwd C F1 R1⟩⟩
theorem mx_raise {k : Nat} {C : Addr} {nm : Str} {p p2 pos : Pos} (tk : Takes X W) (xc : XcOk X.K X.mg nm C) (ec : cv k = .ref C) (hc : X.calm = true := by rfl) (hg : Gl X nm := by rfl) (hdb : (nm == ("__debug__" : Str)) = false := by decide +kernel) : MX cv X W (.Raise (some (.Call (.Name nm p) [] [] p2)) none pos) (raiseX k) :=
  PS.wk (ps_raise hc tk (pmk_own0 PySem.F.excBase_ValueError xc.q xc.g xc.k (raises_own xc.b xc.t) hg hdb)) fun D z H ⟨r, w, s, h, o, h', R, S, e, C⟩ => by
  simp only [raiseX, Option.some.injEq, Prod.mk.injEq] at e
  obtain ⟨rfl, rfl⟩ := e
  have := C r z H (Fwd.refl r H) R S
  rw [ec] at this
  exact this
end
/-! ### calls -/
def CalX (cv : Nat → Value) (P : Program) (w : World) (K : PySem.W.Frag) (mg : Str → Option Value) (base : Heap) (x : Str) (n : Nat) (g : FnX) (k : Nat) : Prop :=
  ∃ (f : Addr) (fd : FuncData) (ps : List Str), FnOk P w K mg base (L2.CX P w) k f fd ps (spX cv K n g) ∧ ps.length = n ∧ mg x = some (.ref f) ∧ PySem.W.keepIn K (.ref f) = true ∧ Binds K fd ps []
section
variable {cv : Nat → Value} {X : Cx} {W : WX} {e tg : Expr} {es : List Expr} {mas : XA} {x : Str} {p pos pos2 : Pos} {n k j : Nat} {g : FnX} {gm : XG}
theorem spX_at {r w : List Addr} {h1 : MH} {H : Hp} {xs : List MV} {z : L2.St} {s : SM} {Q : VK} {o : RX} {h2 : MH} {r1 : List Addr} {us : List V} {H1 : Hp} (hl : us.length = n) (S : SR X.K r w H s z) (F1 : Fwd r H r1 H1) (R1 : Rel X.K r1 w h1 H1) (V1 : VRs X.K r1 w H1 xs us) (e2 : g xs h1 = some (o, h2))
    (c : match o with
      | .val v => Cont X.K r1 w h2 H1 v Q
      | .ex c => ∀ r' z' H', Fwd r H r' H' → Rel X.K r' w h2 H' → SR X.K r' w H' s z' → W (cv c) none z' H') : spX cv X.K n g us H1 Q (WE W z) := by
  refine ⟨hl, r1, w, h1, xs, o, h2, R1, V1, e2, ?_⟩
  cases o with
  | val v => exact c
  | ex k => exact fun r' H' F' R' => c r' z H' (F1.tr R1 F') R' (S.fwd (F1.tr R1 F'))
theorem mx_expr (F : CalX cv X.prog X.w X.K X.mg X.base x n g j) (tk : Takes X W) (hr : Room k X.A) (ha : MA X (e :: es) mas) (hj : j ≤ k := by decide) (hn : (e :: es).length = n := by rfl) (hg : Gl X x := by rfl) (hdb : (x == ("__debug__" : Str)) = false := by decide +kernel)
    (he : starEach (e :: es) X.env = (false, eval e X.env) :: starEach es X.env := by rfl) (hpl : (backTo pos (starEach es X.env)).any (·.1) = false := by rfl) (hs : swapsWith (.Call (.Name x p) (e :: es) [] pos) none pos2.line X.env = pure false := by rfl) : MX cv X W (.Expr (.Call (.Name x p) (e :: es) [] pos) pos2) (exprX g mas) := by
  obtain ⟨f, fd, ps, F, hps, hm, hk, hb⟩ := F
  refine PS.wk (ps_expr (pe_callS F (hr.mono hj) hg hm hk hb (fun σ => passAt tk σ) ha.pa hdb he hpl) hs) fun D z H ⟨r, w, s, h, o, h', R, S, ev, C⟩ => ?_
  unfold exprX at ev
  cases e1 : mas s h with
  | none => simp [e1] at ev
  | some p1 =>
    obtain ⟨xs, h1⟩ := p1
    simp only [e1] at ev
    have hl : xs.length = n := by rw [ha.len _ _ _ _ e1]; exact hn
    cases e2 : g xs h1 with
    | none => simp [e2] at ev
    | some p2 =>
      obtain ⟨o2, h2⟩ := p2
      refine ⟨r, w, s, h, xs, h1, R, S, e1, fun r1 us H1 F1 R1 V1 => spX_at (by rw [← VRs.length V1]; exact hl) S F1 R1 V1 e2 ?_⟩
      cases o2 with
      | val v =>
        simp only [e2, Option.some.injEq, Prod.mk.injEq] at ev
        obtain ⟨rfl, rfl⟩ := ev
        exact fun r2 u2 H2 F2 R2 V2 => C r2 z H2 (F1.tr R1 F2) R2 (S.fwd (F1.tr R1 F2))
      | ex k =>
        simp only [e2, Option.some.injEq, Prod.mk.injEq] at ev
        obtain ⟨rfl, rfl⟩ := ev
        exact C
end
/-! ### defs that may raise -/
section
variable {cv : Nat → Value} {P : Program} {w : World} {K : PySem.W.Frag} {mg : Str → Option Value} {base : Heap} {x : Str} {n k : Nat}
theorem start_sr {N : List Str} {r w' : List Addr} {H : Hp} {vs : List MV} {us : List V} (V : VRs K r w' H vs us) : SR K r w' H (sBegin N.length vs) (L2.start N us) := by
  have hvl := VRs.length V
  refine ⟨by simp [sBegin, L2.start, hvl], fun i y ey => ?_⟩
  unfold sBegin at ey
  unfold L2.start
  by_cases hi : i < vs.length
  · rw [List.getElem?_append_left (by simpa using hi), List.getElem?_map] at ey
    cases ev : vs[i]? with
    | none => rw [ev] at ey; simp at ey
    | some y' =>
      rw [ev] at ey
      simp only [Option.map_some, Option.some.injEq] at ey
      subst ey
      obtain ⟨u, e1, e2⟩ := VRs.get V ev
      refine ⟨u, ?_, e2⟩
      rw [List.getElem?_append_left (by simpa [← hvl] using hi), List.getElem?_map, e1]
      rfl
  · rw [List.getElem?_append_right (by simpa using hi), List.getElem?_replicate] at ey
    split at ey <;> cases ey
theorem def_okX {N ps : List Str} {st : Stmt} {f : Addr} {fd : FuncData} {b : XSX} (F : L2.Fun K x x st f fd) (hg : mg x = some (.ref f)) (S : FnScope N ps (defScope st))
    (hb : ∀ (kV doc pm : Value) (an : Option Addr) (cdv ct : Value) (us : List Value), us.length = ps.length → bindArgs (PySem.W.fnOf x x (defArgs st) (defBody st) (defScope st) .none kV doc pm an cdv ct) ⟨us, []⟩ = pure (ps.zip us))
    (body : ∀ (cdv : Value) (A : Around) (outer : List Env) (s : Shared) (H : Hp) (E : XK), Room k (A.deeper (envOfC x (defScope st) s.heap.objs.size f cdv)) →
      Takes (cxOf (L2.CX P w) P w K mg base N x (defScope st) f cdv A outer s H E) (fun cls d _ H => E cls d H) →
      MXs cv (cxOf (L2.CX P w) P w K mg base N x (defScope st) f cdv A outer s H E) (fun cls d _ H => E cls d H) (defBody st) b) : CalX cv P w K mg base x ps.length (runDefX N.length b) (k + 1) := by
  refine ⟨f, fd, ps, ?_, rfl, hg, F.kp, F.binds hb⟩
  refine F.okX S (fun vs H Q E h => h.1) (fun cdv A outer s H us Q E hr h => ?_)
  obtain ⟨hl, r, w', hh, vs, o, h', R, V, e, C⟩ := h
  refine ⟨_, body cdv A outer s H E hr (takes_of rfl rfl rfl rfl), ?_⟩
  have S0 := start_sr (N := N) V
  unfold runDefX at e
  split at e
  · rename_i v1 s1 h1 e1
    simp only [Option.some.injEq, Prod.mk.injEq] at e
    obtain ⟨rfl, rfl⟩ := e
    exact ⟨r, w', _, hh, .ok (.rt v1) s1, _, R, S0, e1, C⟩
  · rename_i s1 h1 e1
    simp only [Option.some.injEq, Prod.mk.injEq] at e
    obtain ⟨rfl, rfl⟩ := e
    exact ⟨r, w', _, hh, .ok .nx s1, _, R, S0, e1, fun r1 z1 H1 F1 R1 S1 => C r1 .non H1 F1 R1 (by simp only [VR])⟩
  · rename_i c s1 h1 e1
    simp only [Option.some.injEq, Prod.mk.injEq] at e
    obtain ⟨rfl, rfl⟩ := e
    exact ⟨r, w', _, hh, .ex c s1, _, R, S0, e1, fun r1 z1 H1 F1 R1 S1 => C r1 H1 F1 R1⟩
  · cases e
end
section
variable {cv : Nat → Value} {X : Cx} {e : Expr} {es : List Expr} {mas : XA} {x : Str} {p pos : Pos} {n k j : Nat} {g : FnX}
/-- a call of a def that does not raise here -/
theorem me_callX (F : CalX cv X.prog X.w X.K X.mg X.base x n g j) (hr : Room k X.A) (ha : MA X (e :: es) mas) (hj : j ≤ k := by decide) (hn : (e :: es).length = n := by rfl) (hg : Gl X x := by rfl) (hdb : (x == ("__debug__" : Str)) = false := by decide +kernel)
    (he : starEach (e :: es) X.env = (false, eval e X.env) :: starEach es X.env := by rfl) (hpl : (backTo pos (starEach es X.env)).any (·.1) = false := by rfl) : ME X (.Call (.Name x p) (e :: es) [] pos) (xCall (okX g) mas) := by
  obtain ⟨f, fd, ps, F, hps, hm, hk, hb⟩ := F
  refine PE.wk (pe_call F (hr.mono hj) hg hm hk hb .nil passL ha.pa hdb he hpl) fun z H Q ⟨r, w, s, h, v, h', R, S, e, C⟩ => ?_
  unfold xCall at e
  cases e1 : mas s h with
  | none => simp [e1] at e
  | some p1 =>
    obtain ⟨xs, h1⟩ := p1
    simp only [e1] at e
    unfold okX at e
    split at e
    · rename_i v2 h2 e2
      simp only [Option.some.injEq, Prod.mk.injEq] at e
      obtain ⟨rfl, rfl⟩ := e
      refine ⟨r, w, s, h, xs, h1, R, S, e1, fun r1 us H1 F1 R1 V1 => ?_⟩
      show spX cv X.K n g (us ++ []) H1 Q E0
      rw [List.append_nil]
      exact ⟨by rw [← VRs.length V1, ha.len _ _ _ _ e1]; exact hn, r1, w, h1, xs, .val v2, _, R1, V1, e2, C.fwd F1 R1⟩
    · cases e
end
/-! ### try -/
section
variable {cv : Nat → Value} {X : Cx} {body : List Stmt} {b : XSX} {pos : Pos}
inductive MHs (cv : Nat → Value) (X : Cx) : List ExceptHandler → List (Nat × XS) → Prop
  | nil : MHs cv X [] []
  | cons {x : Str} {d : Nat} {m : XS} {b₀ : Stmt} {suite : List Stmt} {np pos' : Pos} {hds : List ExceptHandler} {l : List (Nat × XS)} (hc : Names X x (cv d))
      (hsu : ∀ (a : Addr) (oe : Obj) (pn : List (Addr × Obj)), MSs (X.suite a ((a, oe) :: pn)) (b₀ :: suite) m) (r : MHs cv X hds l) :
      MHs cv X (.ExceptHandler (some (.Name x np)) none (b₀ :: suite) pos' :: hds) ((d, m) :: l)
theorem MHs.ok {hds : List ExceptHandler} {l : List (Nat × XS)} (h : MHs cv X hds l) : HdsOk X hds (l.map fun p => (cv p.1, fun _ _ _ => tS X.K p.2)) := by
  induction h with
  | nil => exact .nil
  | cons hc hsu _ ih => exact .cons hc (fun a oe cls d pn _ _ => hsu a oe pn) ih
end
section
variable {cv : Nat → Value} {P : Program} {w : World} {K : PySem.W.Frag} {mg : Str → Option Value} {base : Heap} {x : Str} {n k : Nat} {g : FnX}
theorem CalX.told (F : CalX cv P w K mg base x n g k) : CalX cv P w K mg base x n (toldX g) k := by
  obtain ⟨f, fd, ps, F, hps, hm, hk, hb⟩ := F
  refine ⟨f, fd, ps, F.imp fun us H Q E ⟨hl, r, w', h, vs, o, h', R, V, e, C⟩ => ?_, hps, hm, hk, hb⟩
  unfold toldX at e
  split at e
  · rename_i v h1 e1
    simp only [Option.some.injEq, Prod.mk.injEq] at e
    obtain ⟨rfl, rfl⟩ := e
    obtain ⟨v2, h2, e2, cel, fz⟩ := toldA_ok (okX g) vs h v h1 e1
    unfold okX at e2
    split at e2
    · rename_i v3 h3 e3
      simp only [Option.some.injEq, Prod.mk.injEq] at e2
      obtain ⟨rfl, rfl⟩ := e2
      refine ⟨hl, r, w', h, vs, .val v3, h3, R, V, e3, fun r2 u H2 F2 R2 V2 => ?_⟩
      obtain ⟨⟨ps, rfl, hps⟩, kp, fr⟩ := F2
      have hx : ∀ d, (r ++ ps)[h3.length]? = some d → False := fun d e => by
        have := (List.getElem?_eq_some_iff.mp e).1
        rw [R2.len] at this
        omega
      rw [← R.len] at fz
      have hw : ∀ d ∈ w', d ∈ w' ∨ (r ++ ps)[h3.length]? = some d := fun d hd => .inl hd
      refine C r u H2 ⟨⟨[], by simp, fun _ z => nomatch z⟩, kp, fr⟩ (rel_cel R R2 hw (fun d e => (hx d e).elim) cel fun d hd => (R2.wh d hd).2) (frz_vr R2 hw v v3 u fz V2)
    · cases e2
  · split at e
    · rename_i c h2 e2
      simp only [Option.some.injEq, Prod.mk.injEq] at e
      obtain ⟨rfl, rfl⟩ := e
      exact ⟨hl, r, w', h, vs, .ex c, _, R, V, e2, C⟩
    · cases e
end
end Ew
end

section
set_option Elab.async false
set_option linter.all false
set_option maxRecDepth 100000
set_option maxHeartbeats 4000000
/-! EwXA: except C as e, where the suite asks only what e is an instance of. -/
namespace Ew
open PySem PySem.Spec PyProof.Rows L2
variable [Tabs]
section
variable {cv : Nat → Value} {X : Cx} {n i : Nat}
/-- asked in the suite of the exception of class c -/
structure IsE (cv : Nat → Value) (X : Cx) (n i : Nat) (e : Expr) (q : Nat → Bool) : Prop where
  pe : ∀ (a : Addr) (oe : Obj) (pn : List (Addr × Obj)) (c : Nat), c < n → Zc (cv c) none oe → (∃ vs, oe.data = .fields vs) →
    PE (X.suite a ((a, oe) :: pn)) e (fun σ H Q => σ[i]? = some (some (V.ref a)) ∧ Q (.bl (q c)) H)
  fn : ∀ c c', c < n → c' < n → cv c = cv c' → q c = q c'
structure IsA (cv : Nat → Value) (X : Cx) (n i : Nat) (es : List Expr) (qs : List (Nat → Bool)) : Prop where
  pa : ∀ (a : Addr) (oe : Obj) (pn : List (Addr × Obj)) (c : Nat), c < n → Zc (cv c) none oe → (∃ vs, oe.data = .fields vs) →
    PA (X.suite a ((a, oe) :: pn)) es (fun σ H Q => σ[i]? = some (some (V.ref a)) ∧ Q (qs.map fun q => V.bl (q c)) H)
  fn : ∀ c c', c < n → c' < n → cv c = cv c' → (qs.map fun q => V.bl (q c)) = qs.map fun q => V.bl (q c')
/-- what is known of the classes that may be raised -/
structure XisOk (cv : Nat → Value) (K : PySem.W.Frag) (n : Nat) (cls : Value) (q : Nat → Bool) : Prop where
  at_ : ∀ c, c < n → ∃ D, cv c = .ref D ∧ ExcC K D ∧ PySem.W.kitOne K (.ref D) cls = some (q c)
theorem XisOk.fn {K : PySem.W.Frag} {cls : Value} {q : Nat → Bool} (h : XisOk cv K n cls q) : ∀ c c', c < n → c' < n → cv c = cv c' → q c = q c' := fun c c' h1 h2 e => by
  obtain ⟨D, e1, _, k1⟩ := h.at_ c h1
  obtain ⟨D', e2, _, k2⟩ := h.at_ c' h2
  rw [e1, e2] at e
  cases e
  rw [k1] at k2
  exact Option.some.inj k2
theorem ise_own {nm t : Str} {C : Addr} {q : Nat → Bool} {p1 p2 p3 p4 : Pos} (hm : X.mg "isinstance" = none) (hm2 : X.mg t = some (.ref C)) (hE : XisOk cv X.K n (.ref C) q) (hN : X.N[i]? = some nm := by rfl)
    (hv : Vis X.env.scope nm := by first | exact Or.inl rfl | exact Or.inr (Or.inl rfl) | exact Or.inr (Or.inr rfl)) (hg : Gl X "isinstance" := by rfl) (hg2 : Gl X t := by rfl) (hd : (nm == ("__debug__" : Str)) = false := by decide +kernel) (hcd : (nm == ("__classdict__" : Str)) = false := by decide +kernel) (hd2 : (t == ("__debug__" : Str)) = false := by decide +kernel)
    (hs : starEach [.Name nm p2, .Name t p3] X.env = (false, eval (.Name nm p2) X.env) :: starEach [.Name t p3] X.env := by rfl) (hs2 : starEach [.Name t p3] X.env = (false, eval (.Name t p3) X.env) :: starEach [] X.env := by rfl) :
    IsE cv X n i (.Call (.Name "isinstance" p1) [.Name nm p2, .Name t p3] [] p4) q := ⟨fun a oe pn c hc hz hf => by
  obtain ⟨D, eD, hC, hk⟩ := hE.at_ c hc
  rw [eD] at hz
  refine PE.wk (pe_callB (X := X.suite a ((a, oe) :: pn)) (call_isE hC hz hf) hg hm (by decide +kernel) (pa_cons (X := X.suite a ((a, oe) :: pn)) (pe_var (X := X.suite a ((a, oe) :: pn)) hN hv hd hcd) (pa_cons (X := X.suite a ((a, oe) :: pn)) (pe_glob (X := X.suite a ((a, oe) :: pn)) (v := .ref C) hg2 hm2 rfl hd2) pa_nil hs2) hs) (by decide +kernel) (by decide +kernel) hs) fun σ H Q h => ?_
  exact ⟨.ref a, h.1, .ref C, .ref C, q c, rfl, fun u ru => ru, hk, h.2⟩, hE.fn⟩
theorem ise_ty {nm t : Str} {tn : String} {q : Nat → Bool} {p1 p2 p3 p4 : Pos} (hm : X.mg "isinstance" = none) (hm2 : X.mg t = none) (hv2 : bootBuiltins t = some (.type tn)) (hE : XisOk cv X.K n (.type tn) q) (hN : X.N[i]? = some nm := by rfl)
    (hv : Vis X.env.scope nm := by first | exact Or.inl rfl | exact Or.inr (Or.inl rfl) | exact Or.inr (Or.inr rfl)) (hg : Gl X "isinstance" := by rfl) (hg2 : Gl X t := by rfl) (hd : (nm == ("__debug__" : Str)) = false := by decide +kernel) (hcd : (nm == ("__classdict__" : Str)) = false := by decide +kernel) (hd2 : (t == ("__debug__" : Str)) = false := by decide +kernel) (hn2 : t ≠ "__name__" := by decide +kernel)
    (hs : starEach [.Name nm p2, .Name t p3] X.env = (false, eval (.Name nm p2) X.env) :: starEach [.Name t p3] X.env := by rfl) (hs2 : starEach [.Name t p3] X.env = (false, eval (.Name t p3) X.env) :: starEach [] X.env := by rfl) :
    IsE cv X n i (.Call (.Name "isinstance" p1) [.Name nm p2, .Name t p3] [] p4) q := ⟨fun a oe pn c hc hz hf => by
  obtain ⟨D, eD, hC, hk⟩ := hE.at_ c hc
  rw [eD] at hz
  refine PE.wk (pe_callB (X := X.suite a ((a, oe) :: pn)) (call_isE hC hz hf) hg hm (by decide +kernel) (pa_cons (X := X.suite a ((a, oe) :: pn)) (pe_var (X := X.suite a ((a, oe) :: pn)) hN hv hd hcd) (pa_cons (X := X.suite a ((a, oe) :: pn)) (pe_bltn (X := X.suite a ((a, oe) :: pn)) (v := .ty tn) hg2 hm2 hv2 rfl hn2 hd2) pa_nil hs2) hs) (by decide +kernel) (by decide +kernel) hs) fun σ H Q h => ?_
  exact ⟨.ref a, h.1, .ty tn, .type tn, q c, rfl, fun u ru => ru, hk, h.2⟩, hE.fn⟩
end
end Ew
end

section
set_option Elab.async false
set_option linter.all false
set_option maxRecDepth 100000
set_option maxHeartbeats 4000000
/-! EwK8: the bridge of EwK7; a module's row on the right of ==. -/
namespace PySem
open PySem.Spec
section
variable {prog : Program} {w : World} {K : Type} [DecidableEq K] {knd : HeapKind prog w K} {A : Around} {E : Value → Shared → Prop} {s : Shared}
theorem ew_call_dictH {o : Addr} {more : List (K × Addr × Value)} {Q : Value → Shared → Prop} (hu : knd.room A.in1.in1) (st : knd.Stays) (hoS : (o == sysModules) = false) (ho : s.heap.DictOfH knd o more) (hsz : more.length ≤ sizeLine) (hap : (more.map fun x => knd.hash x.1).Nodup)
    (h : ∀ h', h'.DictOfH knd s.heap.objs.size more → Heap.SameBut s.heap.objs.size (s.heap.push { cls := .type "dict", data := .dict #[] }) h' → Q (.ref s.heap.objs.size) { s with heap := h' }) :
    wpAny (model prog w) A (call (.type "dict") [.ref o]) Q E s := by
  refine callType_codes (Q₁ := fun obj s₁ => obj = .ref s.heap.objs.size ∧ s₁ = { s with heap := s.heap.push { cls := .type "dict", data := .dict #[] } }) F.kt_called_dict (F.kt_typeCall_dict_1 _) F.entry_dict_init (kt_code_dict_new _ ⟨rfl, rfl⟩) ?_
  rintro obj s₁ ⟨rfl, rfl⟩
  have hnew : (s.heap.push { cls := .type "dict", data := .dict #[] }).DictOfH knd s.heap.objs.size [] := Heap.DictOfH.new s.heap
  have kp : ∀ b u, s.heap.get? b = some u → (s.heap.push { cls := .type "dict", data := .dict #[] }).get? b = some u := fun b u e => Heap.get?_push_of_some _ e
  have his : ∀ x ∈ more, knd.is (s.heap.push { cls := .type "dict", data := .dict #[] }) x.1 x.2.1 := by
    obtain ⟨_, _, _, _, _, _, _, his, _⟩ := id ho
    exact fun x hx => st.stays (fun b u _ _ e _ => kp b u e) (his x hx)
  have ho' : (s.heap.push { cls := .type "dict", data := .dict #[] }).DictOfH knd o more := ho.at' (fun u e => kp _ _ e) his
  have hn : (more.map (·.1)).Nodup := ho.nodup
  have hdo : s.heap.objs.size ≠ o := fun e => absurd ho.lt_size (by rw [e]; exact Nat.lt_irrefl _)
  refine ⟨hnew.typeIs, F.args_dict_init_2 _ _, ?_⟩
  unfold Builtin.«dict.__init__»
  refine wpAny_bind ?_
  unfold Builtin.Dict.selfAndRest
  refine wpAny_bind (wpAny_notOrdered_dict hnew.typeIs ?_)
  show wpAny _ _ (pure (s.heap.objs.size, [Value.ref o])) _ _ _
  refine wpAny_pure ?_
  show wpAny _ _ (Builtin.Dict.updateFrom "dict.__init__" s.heap.objs.size (.ref o) [] .none) _ _ _
  unfold Builtin.Dict.updateFrom
  refine wpAny_bind (wpAny_typeOf ho'.typeIs ?_)
  rw [if_neg (by decide)]
  refine wpAny_bind ?_
  unfold Builtin.Dict.merge
  refine wpAny_bind ?_
  unfold Builtin.Dict.readDirectly
  refine wpAny_bind (wpAny_isInstance ho'.typeIs isSubtype_dict_dict ?_)
  simp only [Bool.not_true, Bool.false_eq_true, if_false]
  refine wpAny_bind (wpAny_specialOf ho'.typeIs F.slot_dict_iter.lookup (wpAny_pure ?_))
  simp only [beq_self_eq_true, if_true]
  refine wpAny_bind (wpAny_pure ?_)
  refine wpAny_mergeDict_heap (hsz := by simpa using hsz) hu hdo hoS hnew ho' (.inr ⟨fun x hx => st.tuple (s := { s with heap := s.heap.push { cls := .type "dict", data := .dict #[] } }) (his x hx), hap⟩) fun h' hd' _ hs' => ?_
  show wpAny _ _ (Builtin.Dict.addKeywords s.heap.objs.size [] >>= _) _ _ _
  rw [storedAllH_nil_of_nodup more hn] at hd'
  exact wpAny_bind (wpAny_pure (wpAny_pure ⟨rfl, h h' hd' hs'⟩))
end
end PySem
namespace Ew
open PySem PySem.Spec PyProof.Rows L2
theorem hashInt_small {u : Int} (h0 : 0 ≤ u) (h1 : u < 1000) : hashInt u = u := by
  obtain ⟨n, rfl⟩ := Int.eq_ofNat_of_zero_le h0
  have hn : n < 1000 := by omega
  have e : rawHash (n : Int) = (n : Int) := by
    unfold rawHash
    have e1 : ((n : Int).natAbs % (2 ^ 61 - 1 : Nat)) = n := by
      rw [Int.natAbs_natCast]
      exact Nat.mod_eq_of_lt (Nat.lt_trans hn (by decide))
    have e2 : ¬ ((n : Int) < 0) := by omega
    have e3 : ((n : Int) == -1) = false := by
      rw [beq_eq_false_iff_ne]; omega
    have e1' : ((n : Int).natAbs : Int) % ((2 ^ 61 - 1 : Nat) : Int) = (n : Int) := by
      have := congrArg (Nat.cast (R := Int)) e1
      simpa using this
    show (let h : Int := ((n : Int).natAbs : Int) % ((2 ^ 61 - 1 : Nat) : Int)
      let h := if (n : Int) < 0 then -h else h
      if h == -1 then -2 else h) = (n : Int)
    rw [e1']
    simp only [if_neg e2, e3, Bool.false_eq_true, if_false]
  unfold hashInt
  rw [e]
  have e3 : ((n : Int) == -1) = false := by
    rw [beq_eq_false_iff_ne]; omega
  rw [e3, if_neg (by decide)]
theorem reduce_thE {x : Nat} (hx : x < 18446744073709551616) (hn : x ≠ 18446744073709551615) : reduceHash (thE hM x 9223372036854775808 18446744073709551615) = thE hM x 9223372036854775808 18446744073709551615 := by
  have e : thE hM x 9223372036854775808 18446744073709551615 = if x < 9223372036854775808 then (x : Int) else (x : Int) - 18446744073709551616 := by
    unfold thE
    rw [if_neg (by simpa using hn)]
    rfl
  rw [e]
  have h63 : (2 : Int) ^ 63 = 9223372036854775808 := by decide +kernel
  unfold reduceHash
  rw [h63]
  split
  · rename_i h1
    rw [if_pos (by simp only [Bool.and_eq_true, decide_eq_true_eq]; omega), if_neg (by simp only [beq_iff_eq]; omega)]
  · rename_i h1
    rw [if_pos (by simp only [Bool.and_eq_true, decide_eq_true_eq]; omega), if_neg (by simp only [beq_iff_eq]; omega)]
theorem keyHash_inj {prog : Program} {w : World} {k l : List Key} (hk : smallP k = true) (hl : smallP l = true) (e : tupleKeyHash (mixKind prog w) k = tupleKeyHash (mixKind prog w) l) : k = l := by
  have shp : ∀ k : List Key, smallP k = true → ∃ u v : Nat, k = [.inl (u : Int), .inl (v : Int)] ∧ u < 1000 ∧ v < 1000 := fun k hk => by
    unfold smallP at hk
    split at hk
    · rename_i u v
      simp only [decide_eq_true_eq] at hk
      obtain ⟨h1, h2, h3, h4⟩ := hk
      obtain ⟨a, rfl⟩ := Int.eq_ofNat_of_zero_le h1
      obtain ⟨b, rfl⟩ := Int.eq_ofNat_of_zero_le h3
      exact ⟨a, b, rfl, by omega, by omega⟩
    · cases hk
  have val : ∀ u v : Nat, u < 1000 → v < 1000 → tupleKeyHash (mixKind prog w) [.inl (u : Int), .inl (v : Int)] = Builtin.Tuple.tupleHashOf [(u : Int), (v : Int)] := fun u v hu hv => by
    have e1 : ([.inl (u : Int), .inl (v : Int)] : List Key).map (mixKind prog w).hash = [(u : Int), (v : Int)] := by
      show [hashInt (u : Int), hashInt (v : Int)] = _
      rw [hashInt_small (by omega) (by omega), hashInt_small (by omega) (by omega)]
    unfold tupleKeyHash
    rw [e1, hash_nat hu hv]
    exact reduce_thE (Nat.mod_lt _ (by decide)) (no_special hu hv)
  obtain ⟨u, v, rfl, h1, h2⟩ := shp k hk
  obtain ⟨u', v', rfl, h3, h4⟩ := shp l hl
  rw [val u v h1 h2, val u' v' h3 h4] at e
  obtain ⟨rfl, rfl⟩ := hash_inj h1 h2 h3 h4 e
  rfl
theorem hashes_nodup {prog : Program} {w : World} : ∀ {ks : List (List Key)}, ks.Nodup → (∀ k ∈ ks, smallP k = true) → (ks.map (tupleKeyHash (mixKind prog w))).Nodup
  | [], _, _ => List.nodup_nil
  | k :: ks, nd, h => by
    rw [List.map_cons, List.nodup_cons]
    rw [List.nodup_cons] at nd
    refine ⟨fun hm => ?_, hashes_nodup nd.2 fun l hl => h l (List.mem_cons_of_mem _ hl)⟩
    obtain ⟨l, hl, e⟩ := List.mem_map.mp hm
    have := keyHash_inj (h l (List.mem_cons_of_mem _ hl)) (h k List.mem_cons_self) e
    subst this
    exact nd.1 hl
variable [Tabs]
section
variable {X : Cx}
/-- dict(d): a copy, pairs of small numbers as keys -/
theorem call_dictT (hu : X.A.units + 64 < cLine) : CallR X (.type "dict") (fun xs H Q => ∃ (a : Addr) (kvs : List (List Key × V)), xs = [.ref a] ∧ Rd H a (.dT kvs) ∧ (∀ kv ∈ kvs, smallP kv.1 = true) ∧ ∀ p, H p = none → Q (.ref p) (upd H p (.dT kvs))) := by
  intro pins s σ H xs us Q I r q
  obtain ⟨a, kvs, ex, hd, hsm, q⟩ := q
  subst ex
  obtain ⟨u, eu, rx⟩ := vals1 r
  subst eu
  cases rx
  obtain ⟨z, lo, vs, rel, dd⟩ := dt_rd I.hok hd
  have keys : vs.map (·.1) = kvs.map (·.1) := by
    clear dd hd hsm q z
    induction rel with
    | nil => rfl
    | cons h t ih => rw [List.map_cons, List.map_cons, ih, h.1]
  have hap : (vs.map fun x => (tupleKind (mixKind X.prog X.w)).hash x.1).Nodup := by
    have e : (vs.map fun x => (tupleKind (mixKind X.prog X.w)).hash x.1) = (vs.map (·.1)).map (tupleKeyHash (mixKind X.prog X.w)) := by
      rw [List.map_map]; rfl
    rw [e]
    refine hashes_nodup dd.nodup fun k hk => ?_
    rw [keys] at hk
    obtain ⟨kv, hkv, rfl⟩ := List.mem_map.mp hk
    exact hsm kv hkv
  have u1 : X.A.in1.units = X.A.units + 1 := rfl
  refine ew_call_dictH (knd := tupleKind (mixKind X.prog X.w)) (tupleKind_room_in1 (knd := mixKind X.prog X.w) (by omega)) (tupleKind_stays (knd := mixKind X.prog X.w)) lo dd (by rw [← Paired.length rel]; exact z) hap fun h' d' hs => ?_
  have hm : (s.heap.objs.size == sysModules) = false := beq_eq_false_iff_ne.mpr (Nat.ne_of_gt I.big)
  have hnew : H s.heap.objs.size = none := I.hok.fresh (Nat.le_refl _)
  obtain ⟨o, es, ep, h1, h2, h3, h4, h5, h6⟩ := d'
  exact ⟨.ref s.heap.objs.size, upd H s.heap.objs.size (.dT kvs), I.laid (t' := s.toks) (fun b u e => (hs.2 b (Nat.ne_of_lt (Heap.lt_size e))).trans (Heap.get?_push_of_some _ e)) (Nat.le_refl _)
    (show ObjOk X.prog X.w _ _ _ (.dT kvs) from ⟨z, hm, vs, KT.keeps rel (fun b ys e => by rw [upd_ne (ne_of_none e hnew)]; exact e), o, es, ep, h1, h2, h3, h4, h6⟩), rfl, q _ hnew⟩
end
section
variable {X : Cx} {e : Expr} {es : List Expr} {mas : XA} {pos p : Pos}
theorem vrt_small {K : PySem.W.Frag} {r w : List Addr} {H : Hp} : ∀ {kvs : List (List MK × MV)} {us : List (List Key × V)}, VRt K r w H kvs us → (kvs.all fun kv => smallP kv.1) = true → ∀ kv ∈ us, smallP kv.1 = true
  | [], us, q, _ => by simp only [VRt] at q; subst q; exact fun kv hkv => nomatch hkv
  | (k, x) :: kvs, us, q, e => by
    simp only [VRt] at q
    obtain ⟨u, t, rfl, q1, q2⟩ := q
    simp only [List.all_cons, Bool.and_eq_true] at e
    intro kv hkv
    rcases List.mem_cons.mp hkv with rfl | hkv
    · exact e.1
    · exact vrt_small q2 e.2 kv hkv
theorem mf_dictT {k : Nat} (hr : Room k X.A) (hm : X.mg "dict" = none) (ha : MA X (e :: es) mas) (hg : Gl X "dict" := by rfl) (he : starEach (e :: es) X.env = (false, eval e X.env) :: starEach es X.env := by rfl) (hpl : (backTo pos (starEach es X.env)).any (·.1) = false := by rfl) :
    MF X (.Call (.Name "dict" p) (e :: es) [] pos) (xArgs fDictT mas) := mf_t (call_dictT (by have := hr.un; omega)) (fun r w h H xs v us Q R V e C => by
  unfold fDictT at e
  split at e
  · rename_i v'
    obtain ⟨u, rfl, q⟩ := vrs1 V
    cases e2 : dictT h v' with
    | none => rw [e2] at e; cases e
    | some kvs =>
      rw [e2] at e
      simp only at e
      split at e
      · rename_i hs
        simp only [Option.some.injEq] at e
        subst e
        obtain ⟨d, us, rfl, rd, q2⟩ := dictT_rd R q e2
        refine ⟨d, us, rfl, rd, vrt_small q2 hs, fun p hp => ?_⟩
        refine C r p _ (Fwd.new r hp) hp (R.hold hp) ?_
        simp only [VF]
        exact ⟨_, upd_same, VRt.map (Stp.hold R hp) _ _ q2⟩
      · cases e
  · cases e) (by decide +kernel) hm ha hg (by decide +kernel) (by decide +kernel) he hpl
end
/-! ### tuple(reversed(a list)) -/
section
variable {X : Cx} {e : Expr} {m : XE} {p p2 pos pos2 : Pos}
def tTupRevW (K : PySem.W.Frag) (te : TE) : TE := fun σ H Q => te σ H fun v H1 => ∃ (a : Addr) (xs : List V), v = .ref a ∧ SqL K H1 a xs ∧ ∀ (q : Addr) (o : Obj), o.cls = .type "tuple" → o.dict = none → H1 q = none → Q (.ref q) (upd H1 q (.frz o (.tup xs.reverse)))
theorem pe_tupRevW {te : TE} (hc : X.calm = true) (hg : Gl X "tuple") (hm : X.mg "tuple" = none) (hg2 : Gl X "reversed") (hm2 : X.mg "reversed" = none) (he : PE X e te)
    (hs : starEach [e] X.env = (false, eval e X.env) :: starEach [] X.env := by rfl)
    (hs2 : starEach [.Call (.Name "reversed" p2) [e] [] pos2] X.env = (false, eval (.Call (.Name "reversed" p2) [e] [] pos2) X.env) :: starEach [] X.env := by rfl) :
    PE X (.Call (.Name "tuple" p) [.Call (.Name "reversed" p2) [e] [] pos2] [] pos) (tTupRevW X.K te) := by
  refine ⟨fun pins s σ H Q I h => ?_⟩
  refine Call_ (ld_blt I hg hm boot_tuple (PyProof.Rows.callWith_type1 (args_cons (Call_ (ld_blt I hg2 hm2 PyProof.Rows.boot_reversed (PyProof.Rows.callWith_type1 (args_cons (thn (he.run pins s σ H _ I h) fun u s1 ⟨v, H1, I1, r1, q1⟩ => args_nil ?_) hs) hs rfl))) hs2) hs2 rfl))
  obtain ⟨a, xs, ev, hq, q⟩ := q1
  subst ev
  obtain rfl : u = Value.ref a := r1
  obtain ⟨its, rv, p', hz⟩ := I1.list hq
  refine call_reversed_list p'.isList (args_nil ?_)
  have k0 : ∀ b o, s1.heap.get? b = some o → (s1.heap.push (revObj a ((its.toArray.size : Int) - 1))).get? b = some o := fun b o e => Heap.get?_push_of_some _ e
  have I2 : Inv X pins σ H1 { s1 with heap := s1.heap.push (revObj a ((its.toArray.size : Int) - 1)) } := I1.kept (t' := s1.toks) k0
  obtain ⟨f0, f1, f2, f3, f4, f5⟩ := I1.fpOk (H' := H1) (b := s1.heap.objs.size) (Nat.le_refl _) (I1.hok.fresh (Nat.le_refl _))
  have hl := p'.isList
  obtain ⟨ol, hol, _⟩ := id hl
  have hne : a ≠ s1.heap.objs.size := Nat.ne_of_lt (Heap.lt_size hol)
  have hn : its.toArray.size ≤ sizeLine := by rw [List.size_toArray, ← rv.length]; exact hz
  refine RT.call_tuple_rev (s := { s1 with heap := s1.heap.push (revObj a ((its.toArray.size : Int) - 1)) }) (I1.ok.hd hc) ⟨_, Heap.get?_push_size _ rfl, rfl, rfl⟩ (hl.push _) hne hn fun h' tk acc hk hi => ?_
  have I3 : Inv X pins σ H1 { s1 with heap := h', toks := tk } := I2.turned (t' := tk) (fun b o hb e => hk b o hb e) f0 f1 f3 f4 f5
  refine ⟨.ref h'.objs.size, upd H1 h'.objs.size (.frz { cls := .type "tuple", data := .seq acc } (.tup xs.reverse)), I3.laid (t' := tk) (fun c o e => Heap.get?_push_of_some _ e) (Nat.le_refl _) (show ObjOk X.prog X.w _ _ _ (.frz { cls := .type "tuple", data := .seq acc } (.tup xs.reverse)) from ⟨Heap.get?_push_size _ rfl, by rw [List.length_reverse]; exact hz, acc.toList, RT.vals_rev rv hi, ?_⟩), rfl, q _ _ rfl rfl (I3.hok.fresh (Nat.le_refl _))⟩
  rw [Array.toArray_toList]
  exact IsTup.new _ _
theorem me_tupRevW (hm : X.mg "tuple" = none) (hm2 : X.mg "reversed" = none) (he : ME X e m) (hc : X.calm = true := by rfl) (hg : Gl X "tuple" := by rfl) (hg2 : Gl X "reversed" := by rfl)
    (hs : starEach [e] X.env = (false, eval e X.env) :: starEach [] X.env := by rfl)
    (hs2 : starEach [.Call (.Name "reversed" p2) [e] [] pos2] X.env = (false, eval (.Call (.Name "reversed" p2) [e] [] pos2) X.env) :: starEach [] X.env := by rfl) :
    ME X (.Call (.Name "tuple" p) [.Call (.Name "reversed" p2) [e] [] pos2] [] pos) (xUn opTupRevW m) := PE.wk (pe_tupRevW hc hg hm hg2 hm2 he hs hs2) fun z H Q ⟨r, w, s, h, v, h', R, S, e, C⟩ => by
  obtain ⟨x, e1, e2⟩ := xUn_at e
  refine ⟨r, w, s, h, x, h', R, S, e1, fun r1 u1 H1 F1 R1 V1 => ?_⟩
  unfold opTupRevW at e2
  cases e3 : listOf h' x with
  | none => rw [e3] at e2; cases e2
  | some xs =>
    rw [e3] at e2
    simp only [Option.map_some, Option.some.injEq] at e2
    subst e2
    obtain ⟨a, us, rfl, t, q⟩ := list_sq X.K R1 V1 e3
    exact ⟨a, us, rfl, t, fun p o ho hd hp => (C.fwd F1 R1).row ho hd R1 hp (VRs.reverse q)⟩
end
/-! ### a module's row on the right of == -/
/-- a name of the module that tells a tuple of ints -/
def TupG (K : PySem.W.Frag) (mg : Str → Option Value) (x : Str) (is : List Int) : Prop := ∃ (a : Addr) (o : Obj) (its : Array Value) (n : Nat), mg x = some (.ref a) ∧ K.lookup a = some o ∧ o.cls = .type "tuple" ∧ o.dict = none ∧ o.data = .seq its n ∧ its.size ≤ sizeLine ∧ Vals (is.map V.int) its.toList
def TupY (K : PySem.W.Frag) (x : Str) (is : List Int) : Prop := ∃ (a : Addr) (o : Obj) (its : Array Value) (n : Nat), PySem.W.nsIn K mainGlobals x = some (some (.ref a)) ∧ K.lookup a = some o ∧ o.cls = .type "tuple" ∧ o.dict = none ∧ o.data = .seq its n ∧ its.size ≤ sizeLine ∧ Vals (is.map V.int) its.toList
omit [Tabs] in
theorem TupY.g {K : PySem.W.Frag} {h : Heap} {mg : Str → Option Value} {x : Str} {is : List Int} (X : K.In h) (G : h.Ns mainGlobals mg) (y : TupY K x is) : TupG K mg x is := by
  obtain ⟨a, o, its, n, h1, h2⟩ := y
  exact ⟨a, o, its, n, PySem.W.mg_of X G h1, h2⟩
omit [Tabs] in
theorem tupY_mk2 {K : PySem.W.Frag} {x : Str} {a : Addr} {i j : Int} {t0 t1 : Tok} {n : Nat} {sl : Array (Option Value)} (h1 : PySem.W.nsIn K mainGlobals x = some (some (.ref a)))
    (h2 : K.lookup a = some ⟨.type "tuple", none, .seq #[.int i t0, .int j t1] n, sl⟩) : TupY K x [i, j] :=
  ⟨a, _, _, n, h1, h2, rfl, rfl, rfl, by show 2 ≤ sizeLine; rw [sizeLine_eq]; omega, .cons ⟨t0, rfl⟩ (.cons ⟨t1, rfl⟩ .nil)⟩
section
variable {X : Cx} {a : Expr} {ma : XE} {pos p : Pos} {x : Str} {is : List Int} {k : Nat}
/-- a module's row of numbers -/
theorem me_gtup (hk : TupG X.K X.mg x is) (hg : Gl X x := by rfl) (hd : (x == ("__debug__" : Str)) = false := by decide +kernel) : ME X (.Name x p) (xC (.row (is.map MV.int))) := by
  obtain ⟨g, o, its, n, h1, h2, h3, h30, h4, h5, h6⟩ := hk
  refine me_c (pe_glob hg h1 (v := .ref g) rfl hd) fun r w H => ?_
  simp only [VR]
  exact ⟨g, is.map V.int, rfl, .inr ⟨o, its, n, h2, h3, h30, h4, h5, h6⟩, VRs.ints is⟩
end
/-! ### except .. as e: return -/
section
variable {cv : Nat → Value} {X : Cx} {n i : Nat}
theorem ise_and {e1 e2 : Expr} {q1 q2 : Nat → Bool} {pos : Pos} (h1 : IsE cv X n i e1 q1) (h2 : IsE cv X n i e2 q2) : IsE cv X n i (.BoolOp .And [e1, e2] pos) (fun c => q1 c && q2 c) :=
  ⟨fun a oe pn c hc hz hf => PE.wk (pe_and (X := X.suite a ((a, oe) :: pn)) (h1.pe a oe pn c hc hz hf) (pe_one (h2.pe a oe pn c hc hz hf))) fun σ H Q h => by
    refine ⟨h.1, q1 c, rfl, ?_⟩
    cases e : q1 c with
    | true =>
      have h3 := h.2
      rw [e, Bool.true_and] at h3
      exact ⟨h.1, h3⟩
    | false =>
      have h3 := h.2
      rw [e, Bool.false_and] at h3
      exact h3, fun c c' hc hc' e => by
    show (q1 c && q2 c) = (q1 c' && q2 c')
    rw [h1.fn c c' hc hc' e, h2.fn c c' hc hc' e]⟩
theorem ms_tryAsR {sub : Nat → Nat → Bool} {d : Nat} {x nm : Str} {body : List Stmt} {b : XSX} {e : Expr} {q : Nat → Bool} {np rp pos pos' : Pos} (hx : ∀ c d, c < n → d < n → PySem.W.exmOne X.K (cv c) (cv d) = some (sub c d)) (hd : d < n) (hc : Names X x (cv d)) (hN : X.N.Nodup)
    (hb : ∀ (W : WX) (pn : List (Addr × Obj)) (xe : Value → Shared → Prop), Takes (X.tr pn xe) W → PassesOwn (model X.prog X.w) X.A X.env xe → MXs cv (X.tr pn xe) W body b) (hA : IsE cv X n i e q)
    (hi : X.N[i]? = some nm := by rfl) (hln : X.env.kindOf nm = some .local := by rfl)
    (hs : X.stack = X.env :: X.outer := by rfl) (hf : X.env.frame = some X.env.locals := by rfl) :
    MS X (.Try body [.ExceptHandler (some (.Name x np)) (some nm) [.Return (some e) rp] pos'] [] [] pos) (sTryAsR n sub b d i q) := by
  refine PS.wk (ps_try_as (tb := fun W => tX cv X.K W b) (i := i) (c := cv d) (ts := fun a cls d0 D' σ H => ∃ c, c < n ∧ cls = cv c ∧ d0 = none ∧ σ[i]? = some (some (V.ref a)) ∧ D'.rt (.bl (q c)) H) hs hf hN hi hln hc takes0 hb (fun a oe cls d0 pn hz hf => ?_)) fun D z H ⟨r, w, s, h, f, s', h', R, S, e, C⟩ => ?_
  · by_cases hk : ∃ c, c < n ∧ cls = cv c ∧ d0 = none
    · obtain ⟨c, hcn, rfl, rfl⟩ := hk
      refine PSs.wk (pss_one (ps_ret (X := X.suite a ((a, oe) :: pn)) (hA.pe a oe pn c hcn hz hf))) fun D σ H ⟨c', hc', e, _, g1, g2⟩ => ?_
      refine ⟨g1, ?_⟩
      rw [hA.fn c c' hcn hc' e]
      exact g2
    · exact ⟨fun pins s σ H D I h => by
        obtain ⟨c, h1, h2, h3, _⟩ := h
        exact (hk ⟨c, h1, h2, h3⟩).elim⟩
  · unfold sTryAsR at e
    split at e
    · rename_i f1 s1 h1 e1
      simp only [Option.some.injEq, Prod.mk.injEq] at e
      obtain ⟨rfl, rfl, rfl⟩ := e
      exact ⟨r, w, s, h, .ok f1 s1, h1, R, S, e1, C⟩
    · rename_i c s1 h1 e1
      split at e
      · rename_i q0
        obtain ⟨q1, q2, q3⟩ := q0
        simp only [Option.some.injEq, Prod.mk.injEq] at e
        obtain ⟨rfl, rfl, rfl⟩ := e
        refine ⟨r, w, s, h, .ex c s1, h1, R, S, e1, fun r' z' H' F' R' S' => ?_⟩
        refine ⟨true, (hx c d q1 hd).trans (by rw [q2]), fun _ a na => ⟨c, q1, rfl, rfl, ?_, ?_⟩, fun z => by cases z⟩
        · rw [List.getElem?_set_self (by rw [← S'.1]; exact q3)]
        · exact C r' _ _ F' R' (by simp only [VR])
      · cases e
    · cases e
end
end Ew
end

section
set_option Elab.async false
set_option linter.all false
set_option maxRecDepth 100000
set_option maxHeartbeats 4000000
/-! EwDF: defs whose last parameters have defaults. -/
namespace Ew
open PySem PySem.Spec PyProof.Rows L2
variable [Tabs]
section
variable {cv : Nat → Value} {P : Program} {w : World} {K : PySem.W.Frag} {mg : Str → Option Value} {base : Heap} {x : Str} {k : Nat}
end
section
variable {cv : Nat → Value} {X : Cx} {W : WX} {e : Expr} {es : List Expr} {mas : XA} {x : Str} {p pos pos2 : Pos} {n k j : Nat} {g : FnX} {ms : List MV}
end
end Ew
end

section
set_option linter.all false
set_option maxRecDepth 100000
/-! the plain part of law_k54_whole_ways_from_a_point -/
namespace Ew
open PySem (Str)
theorem gd_Wp {o q} (w : Wp o q) : Wp o q := w
theorem gd_kS {b q f s h} (w : kS b q f s h) : kS b q f s h := w
theorem gd_We {o q} (w : We o q) : We o q := w
theorem gd_Wv {o q} (w : Wv o q) : Wv o q := w
theorem gd_Wt {o q} (w : Wt o q) : Wt o q := w
theorem gd_kB {k a b} (w : kB k a b) : kB k a b := w
theorem gd_Wg {o q} (w : Wg o q) : Wg o q := w
theorem gd_Wi {o q} (w : Wi o q) : Wi o q := w
theorem gd_Wx {o q} (w : Wx o q) : Wx o q := w
theorem gd_Len {h l q} (w : Wv (fLen h l) q) : Wv (fLen h l) q := w
theorem gd_List {h l q} (w : Wv (fList h l) q) : Wv (fList h l) q := w
theorem gd_Tup {h l q} (w : Wv (fTuple h l) q) : Wv (fTuple h l) q := w
theorem gd_Ix {h a b q} (w : Wv (opIx h a b) q) : Wv (opIx h a b) q := w
theorem gd_At {a b q} (w : Wv (atM a b) q) : Wv (atM a b) q := w
theorem gd_In {h a b q} (w : Wv (opIn h a b) q) : Wv (opIn h a b) q := w
theorem gd_NIn {h a b q} (w : Wv (opNotIn h a b) q) : Wv (opNotIn h a b) q := w
theorem gd_Srt {h l q} (w : Wv (fSorted h l) q) : Wv (fSorted h l) q := w
local macro_rules
  | `(tactic| simp only [ews]) => `(tactic| simp only [sSeq, sAsg, sIf, sRet, sRetN, sExpr, sNext, sPar, sPar3, sBk, sCt, sFor, sPut, gNm, gTp, gsCons, gsNil, xVar, xC, xOp, xUn, xCons, xNil, xArgs, xCall, xTup, xLst, xBox, boxM, xIf, xAnd, xOr, xNot, xB, xAndT, xOrT, xNotT, xAppend, xPop, xPopAt, xExtend, xExtendT, xSlL, xPart, xNoPart, iSeq, iRange1, iRange2, cYes, seqOf, listOf, isLstC, runDef, sBegin, List.map_cons, List.map_nil, List.length_cons, List.length_nil, List.getElem?_cons_zero, List.getElem?_cons_succ, List.getElem?_nil, List.set_cons_zero, List.set_cons_succ, List.cons_append, List.nil_append, List.append_nil, Nat.sub_self, Nat.zero_add, Nat.reduceAdd, Nat.reduceSub, Nat.add_one_sub_one, List.replicate_zero, List.replicate_succ, Option.map_some, if_true, if_false, decide_true, decide_false, Bool.not_true, Bool.not_false, Bool.true_or, Bool.false_or, Bool.or_true, Bool.or_false, Bool.true_and, Bool.false_and, Bool.and_true, Bool.and_false, beq_self_eq_true, opAdd, opSub, opNeg, opLt, opLe, opGt, opGe, opIx, fLen, fAbs, fMax2, fMin2, fIsi, tyN, fList, fTuple, fDictP, opCat, opCatT, lstC, fKeys, fKeysS, fSorted, xPairs, xDisp, xUpdate, sForK, gLp, fKeysT, opRevT, iEnumT, keyOf, keyV, opIsBl, opNotBl, dictK, st_NoneType_bool, st_NoneType_int, st_NoneType_str, st_NoneType_tuple, st_NoneType_list, st_NoneType_dict, st_bool_bool, st_bool_int, st_bool_str, st_bool_tuple, st_bool_list, st_bool_dict, st_int_bool, st_int_int, st_int_str, st_int_tuple, st_int_list, st_int_dict, st_str_bool, st_str_int, st_str_str, st_str_tuple, st_str_list, st_str_dict, st_tuple_bool, st_tuple_int, st_tuple_str, st_tuple_tuple, st_tuple_list, st_tuple_dict, st_list_bool, st_list_int, st_list_str, st_list_tuple, st_list_list, st_list_dict, st_dict_bool, st_dict_int, st_dict_str, st_dict_tuple, st_dict_list, st_dict_dict])
  | `(tactic| simp only [ews, $ts,*]) => `(tactic| simp only [sSeq, sAsg, sIf, sRet, sRetN, sExpr, sNext, sPar, sPar3, sBk, sCt, sFor, sPut, gNm, gTp, gsCons, gsNil, xVar, xC, xOp, xUn, xCons, xNil, xArgs, xCall, xTup, xLst, xBox, boxM, xIf, xAnd, xOr, xNot, xB, xAndT, xOrT, xNotT, xAppend, xPop, xPopAt, xExtend, xExtendT, xSlL, xPart, xNoPart, iSeq, iRange1, iRange2, cYes, seqOf, listOf, isLstC, runDef, sBegin, List.map_cons, List.map_nil, List.length_cons, List.length_nil, List.getElem?_cons_zero, List.getElem?_cons_succ, List.getElem?_nil, List.set_cons_zero, List.set_cons_succ, List.cons_append, List.nil_append, List.append_nil, Nat.sub_self, Nat.zero_add, Nat.reduceAdd, Nat.reduceSub, Nat.add_one_sub_one, List.replicate_zero, List.replicate_succ, Option.map_some, if_true, if_false, decide_true, decide_false, Bool.not_true, Bool.not_false, Bool.true_or, Bool.false_or, Bool.or_true, Bool.or_false, Bool.true_and, Bool.false_and, Bool.and_true, Bool.and_false, beq_self_eq_true, opAdd, opSub, opNeg, opLt, opLe, opGt, opGe, opIx, fLen, fAbs, fMax2, fMin2, fIsi, tyN, fList, fTuple, fDictP, opCat, opCatT, lstC, fKeys, fKeysS, fSorted, xPairs, xDisp, xUpdate, sForK, gLp, fKeysT, opRevT, iEnumT, keyOf, keyV, opIsBl, opNotBl, dictK, st_NoneType_bool, st_NoneType_int, st_NoneType_str, st_NoneType_tuple, st_NoneType_list, st_NoneType_dict, st_bool_bool, st_bool_int, st_bool_str, st_bool_tuple, st_bool_list, st_bool_dict, st_int_bool, st_int_int, st_int_str, st_int_tuple, st_int_list, st_int_dict, st_str_bool, st_str_int, st_str_str, st_str_tuple, st_str_list, st_str_dict, st_tuple_bool, st_tuple_int, st_tuple_str, st_tuple_tuple, st_tuple_list, st_tuple_dict, st_list_bool, st_list_int, st_list_str, st_list_tuple, st_list_list, st_list_dict, st_dict_bool, st_dict_int, st_dict_str, st_dict_tuple, st_dict_list, st_dict_dict, $ts,*])
local macro_rules
  | `(tactic| simp only [ewd]) => `(tactic| simp only [sSeq, sAsg, sIf, sRet, sRetN, sExpr, sNext, sPar, sPar3, sBk, sCt, sFor, sPut, gNm, gTp, gsCons, gsNil, xVar, xC, xOp, xUn, xCons, xNil, xArgs, xCall, xTup, xLst, xBox, boxM, xIf, xAnd, xOr, xNot, xB, xAndT, xOrT, xNotT, xAppend, xPop, xPopAt, xExtend, xExtendT, xSlL, xPart, xNoPart, iSeq, iRange1, iRange2, cYes, seqOf, listOf, isLstC, runDef, sBegin, List.map_cons, List.map_nil, List.length_cons, List.length_nil, List.getElem?_cons_zero, List.getElem?_cons_succ, List.getElem?_nil, List.set_cons_zero, List.set_cons_succ, List.cons_append, List.nil_append, List.append_nil, Nat.sub_self, Nat.zero_add, Nat.reduceAdd, Nat.reduceSub, Nat.add_one_sub_one, List.replicate_zero, List.replicate_succ, Option.map_some, if_true, if_false, decide_true, decide_false, Bool.not_true, Bool.not_false, Bool.true_or, Bool.false_or, Bool.or_true, Bool.or_false, Bool.true_and, Bool.false_and, Bool.and_true, Bool.and_false, beq_self_eq_true, opAdd, opSub, opNeg, opLt, opLe, opGt, opGe, fLen, fAbs, fMax2, fMin2, fIsi, tyN, fList, fTuple, fDictP, opCat, opCatT, lstC, fKeys, fKeysS, fSorted, xPairs, xDisp, xUpdate, sForK, gLp, fKeysT, opRevT, iEnumT, keyOf, keyV, opIsBl, opNotBl, dictK, st_NoneType_bool, st_NoneType_int, st_NoneType_str, st_NoneType_tuple, st_NoneType_list, st_NoneType_dict, st_bool_bool, st_bool_int, st_bool_str, st_bool_tuple, st_bool_list, st_bool_dict, st_int_bool, st_int_int, st_int_str, st_int_tuple, st_int_list, st_int_dict, st_str_bool, st_str_int, st_str_str, st_str_tuple, st_str_list, st_str_dict, st_tuple_bool, st_tuple_int, st_tuple_str, st_tuple_tuple, st_tuple_list, st_tuple_dict, st_list_bool, st_list_int, st_list_str, st_list_tuple, st_list_list, st_list_dict, st_dict_bool, st_dict_int, st_dict_str, st_dict_tuple, st_dict_list, st_dict_dict])
  | `(tactic| simp only [ewd, $ts,*]) => `(tactic| simp only [sSeq, sAsg, sIf, sRet, sRetN, sExpr, sNext, sPar, sPar3, sBk, sCt, sFor, sPut, gNm, gTp, gsCons, gsNil, xVar, xC, xOp, xUn, xCons, xNil, xArgs, xCall, xTup, xLst, xBox, boxM, xIf, xAnd, xOr, xNot, xB, xAndT, xOrT, xNotT, xAppend, xPop, xPopAt, xExtend, xExtendT, xSlL, xPart, xNoPart, iSeq, iRange1, iRange2, cYes, seqOf, listOf, isLstC, runDef, sBegin, List.map_cons, List.map_nil, List.length_cons, List.length_nil, List.getElem?_cons_zero, List.getElem?_cons_succ, List.getElem?_nil, List.set_cons_zero, List.set_cons_succ, List.cons_append, List.nil_append, List.append_nil, Nat.sub_self, Nat.zero_add, Nat.reduceAdd, Nat.reduceSub, Nat.add_one_sub_one, List.replicate_zero, List.replicate_succ, Option.map_some, if_true, if_false, decide_true, decide_false, Bool.not_true, Bool.not_false, Bool.true_or, Bool.false_or, Bool.or_true, Bool.or_false, Bool.true_and, Bool.false_and, Bool.and_true, Bool.and_false, beq_self_eq_true, opAdd, opSub, opNeg, opLt, opLe, opGt, opGe, fLen, fAbs, fMax2, fMin2, fIsi, tyN, fList, fTuple, fDictP, opCat, opCatT, lstC, fKeys, fKeysS, fSorted, xPairs, xDisp, xUpdate, sForK, gLp, fKeysT, opRevT, iEnumT, keyOf, keyV, opIsBl, opNotBl, dictK, st_NoneType_bool, st_NoneType_int, st_NoneType_str, st_NoneType_tuple, st_NoneType_list, st_NoneType_dict, st_bool_bool, st_bool_int, st_bool_str, st_bool_tuple, st_bool_list, st_bool_dict, st_int_bool, st_int_int, st_int_str, st_int_tuple, st_int_list, st_int_dict, st_str_bool, st_str_int, st_str_str, st_str_tuple, st_str_list, st_str_dict, st_tuple_bool, st_tuple_int, st_tuple_str, st_tuple_tuple, st_tuple_list, st_tuple_dict, st_list_bool, st_list_int, st_list_str, st_list_tuple, st_list_list, st_list_dict, st_dict_bool, st_dict_int, st_dict_str, st_dict_tuple, st_dict_list, st_dict_dict, $ts,*])
local macro_rules
  | `(tactic| simp only [ewc]) => `(tactic| simp only [sSeq, sAsg, sIf, sRet, sRetN, sExpr, sNext, sPar, sPar3, sBk, sCt, sFor, sPut, gNm, gTp, gsCons, gsNil, xVar, xC, xOp, xUn, xCons, xNil, xArgs, xCall, xTup, xLst, xBox, boxM, xIf, xAnd, xOr, xNot, xB, xAndT, xOrT, xNotT, xAppend, xPop, xPopAt, xExtend, xExtendT, xSlL, xPart, xNoPart, iSeq, iRange1, iRange2, cYes, seqOf, listOf, isLstC, runDef, sBegin, List.map_cons, List.map_nil, List.length_cons, List.length_nil, List.getElem?_cons_zero, List.getElem?_cons_succ, List.getElem?_nil, List.set_cons_zero, List.set_cons_succ, List.cons_append, List.nil_append, List.append_nil, Nat.sub_self, Nat.zero_add, Nat.reduceAdd, Nat.reduceSub, Nat.add_one_sub_one, List.replicate_zero, List.replicate_succ, Option.map_some, if_true, if_false, decide_true, decide_false, Bool.not_true, Bool.not_false, Bool.true_or, Bool.false_or, Bool.or_true, Bool.or_false, Bool.true_and, Bool.false_and, Bool.and_true, Bool.and_false, beq_self_eq_true])
  | `(tactic| simp only [ewc, $ts,*]) => `(tactic| simp only [sSeq, sAsg, sIf, sRet, sRetN, sExpr, sNext, sPar, sPar3, sBk, sCt, sFor, sPut, gNm, gTp, gsCons, gsNil, xVar, xC, xOp, xUn, xCons, xNil, xArgs, xCall, xTup, xLst, xBox, boxM, xIf, xAnd, xOr, xNot, xB, xAndT, xOrT, xNotT, xAppend, xPop, xPopAt, xExtend, xExtendT, xSlL, xPart, xNoPart, iSeq, iRange1, iRange2, cYes, seqOf, listOf, isLstC, runDef, sBegin, List.map_cons, List.map_nil, List.length_cons, List.length_nil, List.getElem?_cons_zero, List.getElem?_cons_succ, List.getElem?_nil, List.set_cons_zero, List.set_cons_succ, List.cons_append, List.nil_append, List.append_nil, Nat.sub_self, Nat.zero_add, Nat.reduceAdd, Nat.reduceSub, Nat.add_one_sub_one, List.replicate_zero, List.replicate_succ, Option.map_some, if_true, if_false, decide_true, decide_false, Bool.not_true, Bool.not_false, Bool.true_or, Bool.false_or, Bool.or_true, Bool.or_false, Bool.true_and, Bool.false_and, Bool.and_true, Bool.and_false, beq_self_eq_true, $ts,*])
local macro_rules
  | `(tactic| show wp1) => `(tactic| first | ((with_reducible apply gd_Wp); first | (with_reducible apply wp_seq) | (with_reducible apply wp_try) | ((with_reducible apply wp_catch_t); (focus rfl)) | ((with_reducible apply wp_catch_f); (focus rfl)) | (with_reducible apply wp_asg) | (with_reducible apply wp_expr) | (with_reducible apply wp_if) | (with_reducible apply wp_ret) | (with_reducible apply wp_retN) | (with_reducible apply wp_next) | (with_reducible apply wp_bk) | (with_reducible apply wp_ct) | (with_reducible apply wp_put) | (with_reducible apply wp_par) | (with_reducible apply wp_par3) | (with_reducible apply wp_for)) | ((with_reducible apply gd_kS); first | (with_reducible apply kS_nx) | (with_reducible apply kS_rt) | (with_reducible apply kS_bk) | (with_reducible apply kS_ct)) | ((with_reducible apply gd_We); first | (with_reducible apply we_c) | (with_reducible apply we_op) | (with_reducible apply we_call) | (with_reducible apply we_args) | (with_reducible apply we_un) | (with_reducible apply we_tup) | (with_reducible apply we_tupR) | (with_reducible apply we_lst) | (with_reducible apply we_box) | (with_reducible apply we_boxl) | (with_reducible apply we_boxk) | (with_reducible apply we_boxt) | (with_reducible apply we_if) | (with_reducible apply we_and) | (with_reducible apply we_or) | (with_reducible apply we_not) | (with_reducible apply we_chain) | ((with_reducible apply we_lc'); (focus (simp only [wipeM, List.set_cons_zero, List.set_cons_succ]; first | done | rfl))) | (with_reducible apply we_slL) | ((with_reducible apply we_var); (focus rfl))) | (with_reducible apply wa_cons) | (with_reducible apply wa_nil) | ((with_reducible apply gd_Wv); first | (with_reducible apply wv_revL) | (with_reducible apply wv_add) | (with_reducible apply wv_sub) | (with_reducible apply wv_neg) | (with_reducible apply wv_lt) | (with_reducible apply wv_le) | (with_reducible apply wv_gt) | (with_reducible apply wv_ge) | (with_reducible apply wv_eqii) | (with_reducible apply wv_neii) | (with_reducible apply wv_isbl) | (with_reducible apply wv_notbl) | ((with_reducible apply gd_Len); first | (with_reducible apply wv_lenL) | (with_reducible apply wv_lenT) | (with_reducible apply wv_lenR) | (with_reducible apply wv_lenK)) | (with_reducible apply wv_abs) | (with_reducible apply wv_max) | (with_reducible apply wv_min) | ((with_reducible apply gd_List); first | (with_reducible apply wv_listL) | (with_reducible apply wv_listT) | (with_reducible apply wv_listR)) | ((with_reducible apply gd_Tup); first | (with_reducible apply wv_tupL) | (with_reducible apply wv_tupT) | (with_reducible apply wv_tupR)) | ((with_reducible apply gd_Ix); first | (with_reducible apply wv_ixL) | (with_reducible apply wv_ixT) | (with_reducible apply wv_ixR) | (with_reducible apply wv_ixP0) | (with_reducible apply wv_ixP1)) | ((with_reducible apply gd_At); first | (with_reducible apply wv_at0) | (with_reducible apply wv_at1) | (with_reducible apply wv_at2)) | ((with_reducible apply gd_In); first | (with_reducible apply wv_inL) | (with_reducible apply wv_inT) | (with_reducible apply wv_inR) | (with_reducible apply wv_inW)) | ((with_reducible apply gd_NIn); first | (with_reducible apply wv_ninL) | (with_reducible apply wv_ninT) | (with_reducible apply wv_ninR) | (with_reducible apply wv_ninW)) | (with_reducible apply wv_keysSW) | (with_reducible apply wv_keysTW) | (with_reducible apply wv_keysLW) | ((with_reducible apply gd_Srt); first | (with_reducible apply wv_sortL) | (with_reducible apply wv_sortT) | (with_reducible apply wv_sortR) | (with_reducible apply wv_sortP)) | (with_reducible apply wv_neP) | (with_reducible apply wv_intB) | (with_reducible apply wv_intI) | (with_reducible apply wv_countL) | (with_reducible apply wv_isN) | (with_reducible apply wv_notN) | ((with_reducible apply wv_mod); (focus omega)) | ((with_reducible apply wv_div); (focus omega); (focus omega)) | ((with_reducible apply wv_isi); (focus rfl); (focus (simp only [st_NoneType_bool, st_NoneType_int, st_NoneType_str, st_NoneType_tuple, st_NoneType_list, st_NoneType_dict, st_bool_bool, st_bool_int, st_bool_str, st_bool_tuple, st_bool_list, st_bool_dict, st_int_bool, st_int_int, st_int_str, st_int_tuple, st_int_list, st_int_dict, st_str_bool, st_str_int, st_str_str, st_str_tuple, st_str_list, st_str_dict, st_tuple_bool, st_tuple_int, st_tuple_str, st_tuple_tuple, st_tuple_list, st_tuple_dict, st_list_bool, st_list_int, st_list_str, st_list_tuple, st_list_list, st_list_dict, st_dict_bool, st_dict_int, st_dict_str, st_dict_tuple, st_dict_list, st_dict_dict]; first | done | rfl)))) | ((with_reducible apply gd_Wt); first | (with_reducible apply wt_b) | (with_reducible apply wt_and) | (with_reducible apply wt_or) | (with_reducible apply wt_not) | (with_reducible apply wt_yes)) | ((with_reducible apply gd_kB); first | (with_reducible apply kB_t) | (with_reducible apply kB_f) | (with_reducible apply kB_nt) | (with_reducible apply kB_nf) | (with_reducible apply kB_tt) | (with_reducible apply kB_ff) | (with_reducible apply kB_tf) | (with_reducible apply kB_ft) | (with_reducible apply kB_ntt) | (with_reducible apply kB_nff) | (with_reducible apply kB_ntf) | (with_reducible apply kB_nft)) | ((with_reducible apply gd_Wg); first | ((with_reducible apply wg_nm'); (focus (simp only [List.set_cons_zero, List.set_cons_succ]; first | done | rfl))) | (with_reducible apply wg_cons) | (with_reducible apply wg_nil) | (with_reducible apply wg_pair) | ((with_reducible apply wg_tp); (focus rfl)) | ((with_reducible apply wg_rw); (focus rfl)) | ((with_reducible apply wg_lp); (focus rfl))) | ((with_reducible apply gd_Wi); first | (with_reducible apply wi_seq) | (with_reducible apply wi_rng1) | (with_reducible apply wi_rng2) | (with_reducible apply wi_enumT) | (with_reducible apply wi_rev) | (with_reducible apply wi_zipL) | (with_reducible apply wi_enumL)) | ((with_reducible apply gd_Wx); first | (with_reducible apply wx_seq) | (with_reducible apply wx_lift) | (with_reducible apply wx_if) | (with_reducible apply wx_raise) | (with_reducible apply wx_ret) | (with_reducible apply wx_asg) | (with_reducible apply wx_expr)) | (with_reducible apply kX_nx) | (with_reducible apply kX_rt) | (with_reducible apply kX_ex) | (with_reducible apply kV2_val) | (with_reducible apply kV2_ex) | (with_reducible apply kRX_rt) | (with_reducible apply kRX_nx) | (with_reducible apply kRX_ex) | (with_reducible apply kT_ok) | ((with_reducible apply kT_ex); (focus decide)) | (with_reducible apply kV_bl) | (with_reducible apply kR_rt) | (with_reducible apply kR_nx) | (with_reducible apply kI_row) | (with_reducible apply kI_tup) | (with_reducible apply kI_lst) | (with_reducible apply kRv_lst) | (with_reducible apply kRv_tup) | (with_reducible apply kRv_row) | (with_reducible apply kE_tup) | (with_reducible apply kL_lst) | (with_reducible apply kF_vals) | (with_reducible apply kF_cell) | (with_reducible apply kC_vals) | (with_reducible apply kC_cell) | (with_reducible apply wo_none) | (with_reducible apply wo_part) | (with_reducible apply kP_int) | ((with_reducible apply kN_int); (focus (constructor <;> omega))))
local macro_rules
  | `(tactic| show wp) => `(tactic| repeat (show wp1))
local macro_rules
  | `(tactic| show wr $e) => `(tactic| ((first | refine we_of $e ?_ | refine wv_of $e ?_ | refine wp_of $e ?_ | refine wm_of $e ?_ | refine wt_of $e ?_ | refine wa_of $e ?_ | refine wg_of $e ?_ | refine wi_of $e ?_); show wp))
noncomputable section
def subC (c d : Nat) : Bool := ([[true, true], [false, true]].getD c []).getD d false
abbrev c_NoWay : Nat := 0
abbrev c_WallsError : Nat := 1
--@fresh _law_full _law_thinned _law_begun _law_twin _law_far _law_lengths _law_steps ways
--@told _law_flat _law_all _law_leads
--@raises way_to
--@toldX way_to
--@opt _law_lengths dT=_law_lengths_here
--@opt law dictt=_law_lengths_here
--@opt law nedt=_law_lengths_here row0=1
--@opt _law_good dictd=_law_paper
--@opt way_to tuprevl=1

def b__law_mixed : XS := (sSeq (sAsg (xOp opMod (xOp opAdd (xOp opAdd (xOp opMul (xOp opMod (xVar 0) (xC (.int 2147483647))) (xC (.int 48271))) (xOp opMul (xOp opMul (xC (.int 7919)) (xVar 1)) (xVar 1))) (xC (.int 104729))) (xC (.int 2147483647))) (gNm 2))
    (sRet (xOp opMod (xOp opMul (xVar 2) (xVar 2)) (xC (.int 2147483629)))))
def g__law_mixed : Fn := runDef 3 b__law_mixed
theorem d__law_mixed {x0 x1 : MV} {h : MH} {R : MV → MH → Prop} (w : Wp (b__law_mixed [some x0, some x1, none] h) fun f _ h1 => kR f fun v => R v h1) : We (g__law_mixed [x0, x1] h) R := we_def w

def mixOf (c k : Int) : Int :=
  let n := (c % 2147483647 * 48271 + 7919 * k * k + 104729) % 2147483647
  n * n % 2147483629
theorem mixed_at (c k : Int) (h : MH) (k0 : -4611686018427387904 < k) (k1 : k < 4611686018427387904) : g__law_mixed [.int c, .int k] h = some (.int (mixOf c k), h) := by
  have e1 := Int.emod_nonneg c (show (2147483647 : Int) ≠ 0 by decide)
  have e2 := Int.emod_lt_of_pos c (show (0 : Int) < 2147483647 by decide)
  have hn : ∀ z : Int, 0 ≤ z % 2147483647 ∧ z % 2147483647 < 2147483647 := fun z => ⟨Int.emod_nonneg z (by decide), Int.emod_lt_of_pos z (by decide)⟩
  unfold g__law_mixed b__law_mixed
  simp (discharger := omega) only [mod_ok, mul_ok, sSeq, sAsg, sIf, sRet, sRetN, sExpr, sNext, sPar, sPar3, sBk, sCt, sFor, sPut, gNm, gTp, gsCons, gsNil, xVar, xC, xOp, xUn, xCons, xNil, xArgs, xCall, xTup, xLst, xBox, boxM, xIf, xAnd, xOr, xNot, xB, xAndT, xOrT, xNotT, xAppend, xPop, xPopAt, xExtend, xExtendT, xSlL, xPart, xNoPart, iSeq, iRange1, iRange2, cYes, seqOf, listOf, isLstC, runDef, sBegin, List.map_cons, List.map_nil, List.length_cons, List.length_nil, List.getElem?_cons_zero, List.getElem?_cons_succ, List.getElem?_nil, List.set_cons_zero, List.set_cons_succ, List.cons_append, List.nil_append, List.append_nil, Nat.sub_self, Nat.zero_add, Nat.reduceAdd, Nat.reduceSub, Nat.add_one_sub_one, List.replicate_zero, List.replicate_succ, Option.map_some, if_true, if_false, decide_true, decide_false, Bool.not_true, Bool.not_false, Bool.true_or, Bool.false_or, Bool.or_true, Bool.or_false, Bool.true_and, Bool.false_and, Bool.and_true, Bool.and_false, beq_self_eq_true, opAdd, opSub, opNeg, opLt, opLe, opGt, opGe, opIx, fLen, fAbs, fMax2, fMin2, fIsi, tyN, fList, fTuple, fDictP, opCat, opCatT, lstC, fKeys, fKeysS, fSorted, xPairs, xDisp, xUpdate, sForK, gLp, fKeysT, opRevT, iEnumT, keyOf, keyV, opIsBl, opNotBl, dictK, st_NoneType_bool, st_NoneType_int, st_NoneType_str, st_NoneType_tuple, st_NoneType_list, st_NoneType_dict, st_bool_bool, st_bool_int, st_bool_str, st_bool_tuple, st_bool_list, st_bool_dict, st_int_bool, st_int_int, st_int_str, st_int_tuple, st_int_list, st_int_dict, st_str_bool, st_str_int, st_str_str, st_str_tuple, st_str_list, st_str_dict, st_tuple_bool, st_tuple_int, st_tuple_str, st_tuple_tuple, st_tuple_list, st_tuple_dict, st_list_bool, st_list_int, st_list_str, st_list_tuple, st_list_list, st_list_dict, st_dict_bool, st_dict_int, st_dict_str, st_dict_tuple, st_dict_list, st_dict_dict]
  rfl
theorem mix_rng (c k : Int) : 0 ≤ mixOf c k ∧ mixOf c k < 2147483629 := ⟨Int.emod_nonneg _ (by decide), Int.emod_lt_of_pos _ (by decide)⟩
/-- draws -/
def Drawn (ds : List Int) : Prop := ∀ d ∈ ds, 0 ≤ d ∧ d < 2147483629
theorem Drawn.snoc {ds : List Int} {d : Int} (h : Drawn ds) (h0 : 0 ≤ d) (h1 : d < 2147483629) : Drawn (ds ++ [d]) := fun x hx => by
  rcases List.mem_append.mp hx with q | q
  · exact h x q
  · rw [List.mem_singleton.mp q]; exact ⟨h0, h1⟩
def B2__law_draws : XS := (sExpr (xAppend (xVar 1) (xCall g__law_mixed (xCons (xCall g__law_mixed (xCons (xVar 3) (xCons (xOp opAdd (xOp opMul (xC (.int 3)) (xVar 4)) (xC (.int 1))) xNil))) (xCons (xOp opAdd (xOp opAdd (xVar 4) (xVar 2)) (xC (.int 2))) xNil)))))
def W3__law_draws : XT := (xAndT (xB (xOp opGe (xVar 3) (xOp opPow (xC (.int 10)) (xC (.int 18))))) (xB (xOp opLt (xArgs fLen (xCons (xVar 1) xNil)) (xC (.int 900)))))
def B3__law_draws : XS := (sSeq (sExpr (xAppend (xVar 1) (xOp opMod (xVar 3) (xC (.int 2147483629)))))
    (sAsg (xOp opDiv (xVar 3) (xC (.int 2147483629))) (gNm 3)))
def B1__law_draws : XS := (sSeq (sAsg (xArgs fAbs (xCons (xOp opIx (xVar 0) (xVar 2)) xNil)) (gNm 3))
    (sSeq (sIf (xB (xOp opLt (xVar 3) (xOp opPow (xC (.int 10)) (xC (.int 18))))) (sFor (iRange1 (xC (.int 12))) (gNm 4) B2__law_draws) sNext)
    (sSeq (sWhile W3__law_draws B3__law_draws)
    (sIf (xB (xOp opGe (xVar 3) (xC (.int 2147483629)))) (sExpr (xAppend (xVar 1) (xOp opMod (xVar 3) (xC (.int 2147483629))))) sNext))))
def b__law_draws : XS := (sSeq (sAsg (xBox (xLst xNil)) (gNm 1))
    (sSeq (sFor (iRange1 (xArgs fMin2 (xCons (xArgs fLen (xCons (xVar 0) xNil)) (xCons (xC (.int 63)) xNil)))) (gNm 2) B1__law_draws)
    (sRet (xVar 1))))
def g__law_draws : Fn := runDef 5 b__law_draws
theorem d__law_draws {x0 : MV} {h : MH} {R : MV → MH → Prop} (w : Wp (b__law_draws [some x0, none, none, none, none] h) fun f _ h1 => kR f fun v => R v h1) : We (g__law_draws [x0] h) R := we_def w

theorem pow18 (h : MH) : opPow h (.int 10) (.int 18) = some (.int 1000000000000000000) := rfl
/-- the twelve of a small cell -/
theorem draws_3 (ns : List Int) (h : MH) (k : Nat) (c : Int) (ds : List Int) (o4 : Option MV) (hk : k < 63) (hd : Drawn ds) (hlen : ds.length ≤ 912 + 13 * k) :
    ∃ ds2 o4', forGo (gNm 4) B2__law_draws (rngM 0 12) [some (.scr ns), some (.ref h.length), some (.int (k : Nat)), some (.int c), o4] (h ++ [.lst (ds.map .int)])
      = some (.nx, [some (.scr ns), some (.ref h.length), some (.int (k : Nat)), some (.int c), o4'], h ++ [.lst (ds2.map .int)]) ∧ Drawn ds2 ∧ ds2.length ≤ ds.length + 12 := by
  obtain ⟨s', h', e, ds2, o4', rfl, rfl, d2, l2⟩ := forGo_run (g := gNm 4) (b := B2__law_draws)
    (fun i s h1 => ∃ ds2 o4', s = [some (.scr ns), some (.ref h.length), some (.int (k : Nat)), some (.int c), o4'] ∧ h1 = h ++ [.lst (ds2.map .int)] ∧ Drawn ds2 ∧ ds2.length ≤ ds.length + i)
    (rngM 0 12) 0 _ _ ⟨ds, o4, rfl, rfl, hd, by omega⟩ (by
    rintro i x s h1 ex ⟨ds2, o4', rfl, rfl, d2, l2⟩
    obtain ⟨rfl, hi⟩ := rng_at ex
    have hz : ds2.length < szLine := by unfold szLine; omega
    refine ⟨_, _, .nx, _, _, rfl, ?_, .inl rfl, ds2 ++ [mixOf (mixOf c (3 * (0 + (i : Nat)) + 1)) (0 + (i : Nat) + (k : Nat) + 2)], some (.int (0 + (i : Nat))), rfl, rfl, d2.snoc (mix_rng _ _).1 (mix_rng _ _).2, by simp; omega⟩
    simp (discharger := omega) only [B2__law_draws, mod_ok, mul_ok, mixed_at, sSeq, sAsg, sIf, sRet, sRetN, sExpr, sNext, sPar, sPar3, sBk, sCt, sFor, sPut, gNm, gTp, gsCons, gsNil, xVar, xC, xOp, xUn, xCons, xNil, xArgs, xCall, xTup, xLst, xBox, boxM, xIf, xAnd, xOr, xNot, xB, xAndT, xOrT, xNotT, xAppend, xPop, xPopAt, xExtend, xExtendT, xSlL, xPart, xNoPart, iSeq, iRange1, iRange2, cYes, seqOf, listOf, isLstC, runDef, sBegin, List.map_cons, List.map_nil, List.length_cons, List.length_nil, List.getElem?_cons_zero, List.getElem?_cons_succ, List.getElem?_nil, List.set_cons_zero, List.set_cons_succ, List.cons_append, List.nil_append, List.append_nil, Nat.sub_self, Nat.zero_add, Nat.reduceAdd, Nat.reduceSub, Nat.add_one_sub_one, List.replicate_zero, List.replicate_succ, Option.map_some, if_true, if_false, decide_true, decide_false, Bool.not_true, Bool.not_false, Bool.true_or, Bool.false_or, Bool.or_true, Bool.or_false, Bool.true_and, Bool.false_and, Bool.and_true, Bool.and_false, beq_self_eq_true, opAdd, opSub, opNeg, opLt, opLe, opGt, opGe, opIx, fLen, fAbs, fMax2, fMin2, fIsi, tyN, fList, fTuple, fDictP, opCat, opCatT, lstC, fKeys, fKeysS, fSorted, xPairs, xDisp, xUpdate, sForK, gLp, fKeysT, opRevT, iEnumT, keyOf, keyV, opIsBl, opNotBl, dictK, st_NoneType_bool, st_NoneType_int, st_NoneType_str, st_NoneType_tuple, st_NoneType_list, st_NoneType_dict, st_bool_bool, st_bool_int, st_bool_str, st_bool_tuple, st_bool_list, st_bool_dict, st_int_bool, st_int_int, st_int_str, st_int_tuple, st_int_list, st_int_dict, st_str_bool, st_str_int, st_str_str, st_str_tuple, st_str_list, st_str_dict, st_tuple_bool, st_tuple_int, st_tuple_str, st_tuple_tuple, st_tuple_list, st_tuple_dict, st_list_bool, st_list_int, st_list_str, st_list_tuple, st_list_list, st_list_dict, st_dict_bool, st_dict_int, st_dict_str, st_dict_tuple, st_dict_list, st_dict_dict, get_last, set_last, List.length_map, hz, if_true, List.map_append])
  rw [rng_len] at l2
  exact ⟨ds2, o4', e, d2, by omega⟩
/-- the places of a great one -/
theorem draws_w (ns : List Int) (h : MH) (k : Nat) (c : Int) (ds : List Int) (o4 : Option MV) (hc : 0 ≤ c) (hd : Drawn ds) (hlen : ds.length ≤ 912 + 13 * k + 12) :
    ∃ (ds2 : List Int) (c2 : Int), sWhile W3__law_draws B3__law_draws [some (.scr ns), some (.ref h.length), some (.int (k : Nat)), some (.int c), o4] (h ++ [.lst (ds.map .int)])
      = some (.nx, [some (.scr ns), some (.ref h.length), some (.int (k : Nat)), some (.int c2), o4], h ++ [.lst (ds2.map .int)]) ∧ Drawn ds2 ∧ (ds2.length ≤ ds.length ∨ ds2.length ≤ 900) := by
  obtain ⟨s', h', e, ds2, c2, rfl, rfl, d2, l2⟩ := sWhile_run (c := W3__law_draws) (b := B3__law_draws)
    (fun s h1 => ∃ (ds2 : List Int) (c2 : Int), s = [some (.scr ns), some (.ref h.length), some (.int (k : Nat)), some (.int c2), o4] ∧ h1 = h ++ [.lst (ds2.map .int)] ∧ 0 ≤ c2 ∧ Drawn ds2 ∧ (ds2.length ≤ ds.length ∨ ds2.length ≤ 900))
    (fun s h1 => ∃ (ds2 : List Int) (c2 : Int), s = [some (.scr ns), some (.ref h.length), some (.int (k : Nat)), some (.int c2), o4] ∧ h1 = h ++ [.lst (ds2.map .int)] ∧ Drawn ds2 ∧ (ds2.length ≤ ds.length ∨ ds2.length ≤ 900))
    (fun _ h1 => match h1[h.length]? with | some (.lst xs) => 1000 - xs.length | _ => 0)
    (by
      rintro s h1 ⟨ds2, c2, rfl, rfl, hc2, d2, l2⟩
      by_cases q : 1000000000000000000 ≤ c2
      · by_cases q2 : ds2.length < 900
        · have hz : ds2.length < szLine := by unfold szLine; omega
          have q3 : ((ds2.length : Nat) : Int) < 900 := by omega
          refine .inr ⟨h ++ [.lst (ds2.map .int)], .nx, _, _, ?_, ?_, .inl rfl, ⟨ds2 ++ [c2 % 2147483629], c2 / 2147483629, rfl, rfl, Int.ediv_nonneg hc2 (by decide), d2.snoc (Int.emod_nonneg _ (by decide)) (Int.emod_lt_of_pos _ (by decide)), .inr (by simp; omega)⟩, ?_⟩
          · simp only [ews, W3__law_draws, get_last, pow18, List.length_map, q, q3]
          · simp (discharger := omega) only [B3__law_draws, sSeq, sAsg, sIf, sRet, sRetN, sExpr, sNext, sPar, sPar3, sBk, sCt, sFor, sPut, gNm, gTp, gsCons, gsNil, xVar, xC, xOp, xUn, xCons, xNil, xArgs, xCall, xTup, xLst, xBox, boxM, xIf, xAnd, xOr, xNot, xB, xAndT, xOrT, xNotT, xAppend, xPop, xPopAt, xExtend, xExtendT, xSlL, xPart, xNoPart, iSeq, iRange1, iRange2, cYes, seqOf, listOf, isLstC, runDef, sBegin, List.map_cons, List.map_nil, List.length_cons, List.length_nil, List.getElem?_cons_zero, List.getElem?_cons_succ, List.getElem?_nil, List.set_cons_zero, List.set_cons_succ, List.cons_append, List.nil_append, List.append_nil, Nat.sub_self, Nat.zero_add, Nat.reduceAdd, Nat.reduceSub, Nat.add_one_sub_one, List.replicate_zero, List.replicate_succ, Option.map_some, if_true, if_false, decide_true, decide_false, Bool.not_true, Bool.not_false, Bool.true_or, Bool.false_or, Bool.or_true, Bool.or_false, Bool.true_and, Bool.false_and, Bool.and_true, Bool.and_false, beq_self_eq_true, opAdd, opSub, opNeg, opLt, opLe, opGt, opGe, opIx, fLen, fAbs, fMax2, fMin2, fIsi, tyN, fList, fTuple, fDictP, opCat, opCatT, lstC, fKeys, fKeysS, fSorted, xPairs, xDisp, xUpdate, sForK, gLp, fKeysT, opRevT, iEnumT, keyOf, keyV, opIsBl, opNotBl, dictK, st_NoneType_bool, st_NoneType_int, st_NoneType_str, st_NoneType_tuple, st_NoneType_list, st_NoneType_dict, st_bool_bool, st_bool_int, st_bool_str, st_bool_tuple, st_bool_list, st_bool_dict, st_int_bool, st_int_int, st_int_str, st_int_tuple, st_int_list, st_int_dict, st_str_bool, st_str_int, st_str_str, st_str_tuple, st_str_list, st_str_dict, st_tuple_bool, st_tuple_int, st_tuple_str, st_tuple_tuple, st_tuple_list, st_tuple_dict, st_list_bool, st_list_int, st_list_str, st_list_tuple, st_list_list, st_list_dict, st_dict_bool, st_dict_int, st_dict_str, st_dict_tuple, st_dict_list, st_dict_dict, get_last, set_last, mod_ok, div_ok, List.length_map, hz, if_true, List.map_append]
          · simp only [get_last, List.length_map, List.length_append, List.length_singleton]; omega
        · refine .inl ⟨h ++ [.lst (ds2.map .int)], ?_, ds2, c2, rfl, rfl, d2, l2⟩
          have q3 : ¬ ((ds2.length : Nat) : Int) < 900 := by omega
          simp only [ews, W3__law_draws, get_last, pow18, List.length_map, q, q3]
      · refine .inl ⟨h ++ [.lst (ds2.map .int)], ?_, ds2, c2, rfl, rfl, d2, l2⟩
        simp only [ews, W3__law_draws, get_last, pow18, q])
    [some (.scr ns), some (.ref h.length), some (.int (k : Nat)), some (.int c), o4] (h ++ [.lst (ds.map .int)]) ⟨ds, c, rfl, rfl, hc, hd, .inl (Nat.le_refl _)⟩
  exact ⟨ds2, c2, e, d2, l2⟩
theorem draws_at (ns : List Int) (hl : ns.length ≤ 63) (h : MH) : ∃ ds : List Int, g__law_draws [.scr ns] h = some (.ref h.length, h ++ [.lst (ds.map .int)]) ∧ Drawn ds ∧ ds.length ≤ 2000 := by
  obtain ⟨s', h', e, ds, o2, o3, o4, rfl, rfl, d2, l2⟩ := forGo_run (g := gNm 2) (b := B1__law_draws)
    (fun i s h1 => ∃ ds o2 o3 o4, s = [some (.scr ns), some (.ref h.length), o2, o3, o4] ∧ h1 = h ++ [.lst (ds.map .int)] ∧ Drawn ds ∧ ds.length ≤ 912 + 13 * i)
    (rngM 0 (min ns.length 63)) 0 [some (.scr ns), some (.ref h.length), none, none, none] (h ++ [.lst []]) ⟨[], none, none, none, rfl, rfl, (show Drawn [] from fun _ hm => by cases hm), by simp⟩ (by
    rintro i x s h1 ex ⟨ds, o2, o3, o4, rfl, rfl, d2, l2⟩
    rw [Nat.zero_add] at l2 ⊢
    obtain ⟨rfl, hi⟩ := rng_at ex
    rw [Int.zero_add]
    have hi2 : i < ns.length := by omega
    have ea : atM (ns.map MV.int) (i : Nat) = some (.int ns[i]) := at_nat (by rw [map_at, List.getElem?_eq_getElem hi2]; rfl)
    obtain ⟨c, hc, hc0⟩ : ∃ c : Int, (if ns[i] < 0 then -ns[i] else ns[i]) = c ∧ 0 ≤ c := ⟨_, rfl, by split <;> omega⟩
    -- small cells
    have st1 : ∃ (ds2 : List Int) (o4' : Option MV), (if c < 1000000000000000000 then forGo (gNm 4) B2__law_draws (rngM 0 12) [some (.scr ns), some (.ref h.length), some (.int (i : Nat)), some (.int c), o4] (h ++ [.lst (ds.map .int)]) else some (.nx, [some (.scr ns), some (.ref h.length), some (.int (i : Nat)), some (.int c), o4], h ++ [.lst (ds.map .int)]))
        = some (.nx, [some (.scr ns), some (.ref h.length), some (.int (i : Nat)), some (.int c), o4'], h ++ [.lst (ds2.map .int)]) ∧ Drawn ds2 ∧ ds2.length ≤ 912 + 13 * i + 12 := by
      by_cases q : c < 1000000000000000000
      · obtain ⟨ds2, o4', e1, e2, e3⟩ := draws_3 ns h i c ds o4 (by omega) d2 l2
        exact ⟨ds2, o4', by rw [if_pos q]; exact e1, e2, by omega⟩
      · exact ⟨ds, o4, by rw [if_neg q], d2, by omega⟩
    obtain ⟨ds2, o4', e2, d3, l3⟩ := st1
    obtain ⟨ds3, c3, e3, d4, l4⟩ := draws_w ns h i c ds2 o4' hc0 d3 l3
    have hz : ds3.length < szLine := by unfold szLine; omega
    have pre : B1__law_draws [some (.scr ns), some (.ref h.length), some (.int (i : Nat)), o3, o4] (h ++ [.lst (ds.map .int)]) = (if 2147483629 ≤ c3 then some (.nx, [some (.scr ns), some (.ref h.length), some (.int (i : Nat)), some (.int c3), o4'], h ++ [.lst ((ds3 ++ [c3 % 2147483629]).map .int)]) else some (.nx, [some (.scr ns), some (.ref h.length), some (.int (i : Nat)), some (.int c3), o4'], h ++ [.lst (ds3.map .int)])) := by
      have t12 : (-(2 : Int) ^ 62 ≤ 12 ∧ (12 : Int) < 2 ^ 62) := by decide
      have n12 : (12 : Int).toNat = 12 := rfl
      simp only [ews, B1__law_draws, ea, hc, pow18, t12, and_self, if_true, n12]
      by_cases q : c < 1000000000000000000
      · rw [if_pos q] at e2
        simp only [ews, q, decide_true, e2, e3]
        by_cases q2 : 2147483629 ≤ c3
        · simp (discharger := omega) only [q2, sSeq, sAsg, sIf, sRet, sRetN, sExpr, sNext, sPar, sPar3, sBk, sCt, sFor, sPut, gNm, gTp, gsCons, gsNil, xVar, xC, xOp, xUn, xCons, xNil, xArgs, xCall, xTup, xLst, xBox, boxM, xIf, xAnd, xOr, xNot, xB, xAndT, xOrT, xNotT, xAppend, xPop, xPopAt, xExtend, xExtendT, xSlL, xPart, xNoPart, iSeq, iRange1, iRange2, cYes, seqOf, listOf, isLstC, runDef, sBegin, List.map_cons, List.map_nil, List.length_cons, List.length_nil, List.getElem?_cons_zero, List.getElem?_cons_succ, List.getElem?_nil, List.set_cons_zero, List.set_cons_succ, List.cons_append, List.nil_append, List.append_nil, Nat.sub_self, Nat.zero_add, Nat.reduceAdd, Nat.reduceSub, Nat.add_one_sub_one, List.replicate_zero, List.replicate_succ, Option.map_some, if_true, if_false, decide_true, decide_false, Bool.not_true, Bool.not_false, Bool.true_or, Bool.false_or, Bool.or_true, Bool.or_false, Bool.true_and, Bool.false_and, Bool.and_true, Bool.and_false, beq_self_eq_true, opAdd, opSub, opNeg, opLt, opLe, opGt, opGe, opIx, fLen, fAbs, fMax2, fMin2, fIsi, tyN, fList, fTuple, fDictP, opCat, opCatT, lstC, fKeys, fKeysS, fSorted, xPairs, xDisp, xUpdate, sForK, gLp, fKeysT, opRevT, iEnumT, keyOf, keyV, opIsBl, opNotBl, dictK, st_NoneType_bool, st_NoneType_int, st_NoneType_str, st_NoneType_tuple, st_NoneType_list, st_NoneType_dict, st_bool_bool, st_bool_int, st_bool_str, st_bool_tuple, st_bool_list, st_bool_dict, st_int_bool, st_int_int, st_int_str, st_int_tuple, st_int_list, st_int_dict, st_str_bool, st_str_int, st_str_str, st_str_tuple, st_str_list, st_str_dict, st_tuple_bool, st_tuple_int, st_tuple_str, st_tuple_tuple, st_tuple_list, st_tuple_dict, st_list_bool, st_list_int, st_list_str, st_list_tuple, st_list_list, st_list_dict, st_dict_bool, st_dict_int, st_dict_str, st_dict_tuple, st_dict_list, st_dict_dict, get_last, set_last, mod_ok, List.length_map, hz, if_true, List.map_append]
        · simp only [ews, q2, if_false]
      · rw [if_neg q] at e2
        simp only [Option.some.injEq, Prod.mk.injEq, List.cons.injEq, true_and, and_true] at e2
        obtain ⟨rfl, e2⟩ := e2
        rw [← e2] at e3
        simp only [ews, q, decide_false, e3]
        by_cases q2 : 2147483629 ≤ c3
        · simp (discharger := omega) only [q2, sSeq, sAsg, sIf, sRet, sRetN, sExpr, sNext, sPar, sPar3, sBk, sCt, sFor, sPut, gNm, gTp, gsCons, gsNil, xVar, xC, xOp, xUn, xCons, xNil, xArgs, xCall, xTup, xLst, xBox, boxM, xIf, xAnd, xOr, xNot, xB, xAndT, xOrT, xNotT, xAppend, xPop, xPopAt, xExtend, xExtendT, xSlL, xPart, xNoPart, iSeq, iRange1, iRange2, cYes, seqOf, listOf, isLstC, runDef, sBegin, List.map_cons, List.map_nil, List.length_cons, List.length_nil, List.getElem?_cons_zero, List.getElem?_cons_succ, List.getElem?_nil, List.set_cons_zero, List.set_cons_succ, List.cons_append, List.nil_append, List.append_nil, Nat.sub_self, Nat.zero_add, Nat.reduceAdd, Nat.reduceSub, Nat.add_one_sub_one, List.replicate_zero, List.replicate_succ, Option.map_some, if_true, if_false, decide_true, decide_false, Bool.not_true, Bool.not_false, Bool.true_or, Bool.false_or, Bool.or_true, Bool.or_false, Bool.true_and, Bool.false_and, Bool.and_true, Bool.and_false, beq_self_eq_true, opAdd, opSub, opNeg, opLt, opLe, opGt, opGe, opIx, fLen, fAbs, fMax2, fMin2, fIsi, tyN, fList, fTuple, fDictP, opCat, opCatT, lstC, fKeys, fKeysS, fSorted, xPairs, xDisp, xUpdate, sForK, gLp, fKeysT, opRevT, iEnumT, keyOf, keyV, opIsBl, opNotBl, dictK, st_NoneType_bool, st_NoneType_int, st_NoneType_str, st_NoneType_tuple, st_NoneType_list, st_NoneType_dict, st_bool_bool, st_bool_int, st_bool_str, st_bool_tuple, st_bool_list, st_bool_dict, st_int_bool, st_int_int, st_int_str, st_int_tuple, st_int_list, st_int_dict, st_str_bool, st_str_int, st_str_str, st_str_tuple, st_str_list, st_str_dict, st_tuple_bool, st_tuple_int, st_tuple_str, st_tuple_tuple, st_tuple_list, st_tuple_dict, st_list_bool, st_list_int, st_list_str, st_list_tuple, st_list_list, st_list_dict, st_dict_bool, st_dict_int, st_dict_str, st_dict_tuple, st_dict_list, st_dict_dict, get_last, set_last, mod_ok, List.length_map, hz, if_true, List.map_append]
        · simp only [ews, q2, if_false]
    by_cases q : 2147483629 ≤ c3
    · rw [if_pos q] at pre
      exact ⟨_, _, .nx, _, _, rfl, pre, .inl rfl, ds3 ++ [c3 % 2147483629], _, _, _, rfl, rfl, d4.snoc (Int.emod_nonneg _ (by decide)) (Int.emod_lt_of_pos _ (by decide)), by simp; omega⟩
    · rw [if_neg q] at pre
      exact ⟨_, _, .nx, _, _, rfl, pre, .inl rfl, ds3, _, _, _, rfl, rfl, d4, by omega⟩)
  rw [rng_len] at l2
  refine ⟨ds, ?_, d2, by omega⟩
  have em : (if (63 : Int) < ((ns.length : Nat) : Int) then (63 : Int) else ((ns.length : Nat) : Int)) = ((min ns.length 63 : Nat) : Int) := by split <;> omega
  have em2 : (((min ns.length 63 : Nat) : Int)).toNat = min ns.length 63 := by omega
  have b0 : -(2 : Int) ^ 62 ≤ ((min ns.length 63 : Nat) : Int) ∧ ((min ns.length 63 : Nat) : Int) < 2 ^ 62 := by omega
  simp only [ews, g__law_draws, b__law_draws, List.length_map, gt_iff_lt, em, b0, and_self, if_true, em2, e]

def b__law_next : XS := (sSeq (sIf (xB (xOp opEq (xVar 0) (xLst xNil))) (sRet (xC (.int 0))) sNext)
    (sRet (xPopAt (xVar 0) (xC (.int 0)))))
def g__law_next : Fn := runDef 1 b__law_next
theorem d__law_next {x0 : MV} {h : MH} {R : MV → MH → Prop} (w : Wp (b__law_next [some x0] h) fun f _ h1 => kR f fun v => R v h1) : We (g__law_next [x0] h) R := we_def w

theorem next_at (ds : List Int) (d : Nat) (h : MH) (e : h[d]? = some (.lst (ds.map .int))) : g__law_next [.ref d] h = some (.int (ds.headD 0), h.set d (.lst (ds.tail.map .int))) := by
  have hl : d < h.length := (List.getElem?_eq_some_iff.mp e).1
  cases ds with
  | nil =>
    have eq1 : opEq h (.ref d) (.lst []) = some (.bl true) := eq_cell [] e
    have ss : h.set d (.lst []) = h := set_same e
    simp only [ews, g__law_next, b__law_next, eq1, List.headD_nil, List.tail_nil, ss]
  | cons x xs =>
    have eq1 : opEq h (.ref d) (.lst []) = some (.bl false) := eq_cell [] e
    have z0 : (-(2 : Int) ^ 62 ≤ 0 ∧ (0 : Int) < 2 ^ 62) := by decide
    have i0 : ixM (xs.length + 1) 0 = some 0 := by unfold ixM; rw [if_pos (by omega), if_pos (by omega)]; rfl
    simp only [ews, g__law_next, b__law_next, eq1, e, List.map_cons, List.length_map, z0, and_self, if_true, i0, List.eraseIdx_cons_zero, List.headD_cons, List.tail_cons]
theorem Drawn.tail {ds : List Int} (h : Drawn ds) : Drawn ds.tail := fun x hx => h x (List.mem_of_mem_tail hx)
theorem Drawn.head {ds : List Int} (h : Drawn ds) : 0 ≤ ds.headD 0 ∧ ds.headD 0 < 2147483629 := by
  cases ds with
  | nil => exact ⟨by decide, by decide⟩
  | cons x xs => exact h x List.mem_cons_self
--@fresh _law_full
/-! webs that have grown point by point -/
def sumR (W : WL) : Nat := (W.map fun p => p.2.length).sum
/-- what a three-cornered web that has grown point by point has more -/
structure Grw (W : WL) : Prop where
  sum : sumR W + 12 = 6 * W.length
  con : ∀ Q : Int → Prop, (∀ x r y, rowOf W x = some r → y ∈ r → Q x → Q y) → ∀ x y, x ∈ keysOf' W → y ∈ keysOf' W → Q x → Q y
/-! ### grown webs -/
theorem rep_no : ∀ {W : WL} {u : Int} {r : List Int}, u ∉ keysOf' W → repRow W u r = W
  | [], _, _, _ => rfl
  | p :: W, u, r, h => by
    have h2 : p.1 ≠ u ∧ u ∉ keysOf' W := by simp only [keysOf', List.map_cons, List.mem_cons, not_or] at h; exact ⟨fun q => h.1 q.symm, h.2⟩
    rw [repRow, if_neg h2.1, rep_no h2.2]
theorem rep_sum : ∀ {W : WL} {u : Int} {r r0 : List Int}, (keysOf' W).Nodup → rowOf W u = some r0 → sumR (repRow W u r) + r0.length = sumR W + r.length
  | [], _, _, _, _, e => by cases e
  | p :: W, u, r, r0, nd, e => by
    have n2 : p.1 ∉ keysOf' W ∧ (keysOf' W).Nodup := List.nodup_cons.mp nd
    rw [rowOf] at e
    rw [repRow]
    by_cases q : p.1 = u
    · rw [if_pos q] at e; cases e
      rw [if_pos q, rep_no (q ▸ n2.1)]
      unfold sumR
      rw [List.map_cons, List.sum_cons, List.map_cons, List.sum_cons]
      dsimp only
      omega
    · rw [if_neg q] at e
      have ih := rep_sum (r := r) n2.2 e
      rw [if_neg q]
      unfold sumR at ih ⊢
      rw [List.map_cons, List.sum_cons, List.map_cons, List.sum_cons]
      omega
theorem put_sum {W : WL} {u : Int} {r r0 : List Int} (nd : (keysOf' W).Nodup) (e : rowOf W u = some r0) : sumR (putRow W u r) + r0.length = sumR W + r.length := by
  unfold putRow
  rw [if_pos (by rw [e]; rfl)]
  exact rep_sum nd e
theorem grw_tri0 {a b c : Int} (h1 : a ≠ b) (h2 : a ≠ c) (h3 : b ≠ c) : Grw (tri0 a b c) := by
  have ra : rowOf (tri0 a b c) a = some [b, c] := by simp [tri0, rowOf]
  have rb : rowOf (tri0 a b c) b = some [c, a] := by simp [tri0, rowOf, h1]
  have rc : rowOf (tri0 a b c) c = some [a, b] := by simp [tri0, rowOf, h2, h3]
  refine ⟨rfl, fun Q hQ x y hx hy q => ?_⟩
  have ab := hQ a _ b ra (by simp)
  have bc := hQ b _ c rb (by simp)
  have ca := hQ c _ a rc (by simp)
  simp only [tri0, keysOf', List.map_cons, List.map_nil, List.mem_cons, List.not_mem_nil, or_false] at hx hy
  have qa : Q a := by
    rcases hx with rfl | rfl | rfl
    · exact q
    · exact ca (bc q)
    · exact ca q
  rcases hy with rfl | rfl | rfl
  · exact qa
  · exact ab qa
  · exact bc (ab qa)
theorem grw_stand {W : WL} (T : Tri W) (g : Grw W) {p x y : Int} {rx ry rz : List Int} (ex : rowOf W x = some rx) (hy : y ∈ rx) (ey : rowOf W y = some ry) (ez : rowOf W (nxt ry x) = some rz) (hp : p ∉ keysOf' W) : Grw (standIn W p x y (nxt ry x) rx ry rz) := by
  obtain ⟨hx, rz', ez', hz, hyz, hzx, hxz, d1, d2, d3, f1, f2⟩ := T.corners ex hy ey
  rw [ez] at ez'; cases ez'
  obtain ⟨T', RO, KO⟩ := T.stand ex hy ey ez hp
  generalize hze : nxt ry x = z at *
  have np : ∀ u r, rowOf W u = some r → p ∉ r := fun u r e q => by
    obtain ⟨r', e', _⟩ := T.sym u p r e q
    exact hp (rowOf_mem e')
  have xp : x ≠ p := fun q => hp (q ▸ rowOf_mem ex)
  refine ⟨?_, fun Q hQ a b ha hb q => ?_⟩
  · have k1 : keysOf' (putRow W y (ins ry x p)) = keysOf' W := by rw [keys_put, if_pos (rowOf_mem ey)]
    have k2 : keysOf' (putRow (putRow W y (ins ry x p)) z (ins rz y p)) = keysOf' W := by rw [keys_put, k1, if_pos (rowOf_mem ez)]
    have k3 : keysOf' (putRow (putRow (putRow W y (ins ry x p)) z (ins rz y p)) x (ins rx z p)) = keysOf' W := by rw [keys_put, k2, if_pos (rowOf_mem ex)]
    have e1 : rowOf (putRow W y (ins ry x p)) z = some rz := by rw [rowOf_put, if_neg fun q => d2 q.symm]; exact ez
    have e2 : rowOf (putRow (putRow W y (ins ry x p)) z (ins rz y p)) x = some rx := by rw [rowOf_put, if_neg d3, rowOf_put, if_neg fun q => d1 q.symm]; exact ex
    have s1 := put_sum (r := ins ry x p) T.nd ey
    have s2 := put_sum (r := ins rz y p) (by rw [k1]; exact T.nd) e1
    have s3 := put_sum (r := ins rx z p) (by rw [k2]; exact T.nd) e2
    rw [len_ins hx (np y ry ey)] at s1
    rw [len_ins hyz (np z rz ez)] at s2
    rw [len_ins hzx (np x rx ex)] at s3
    have ll : (standIn W p x y z rx ry rz).length = W.length + 1 := by rw [← keys_len, KO, List.length_append, keys_len]; rfl
    have s4 : sumR (standIn W p x y z rx ry rz) = sumR (putRow (putRow (putRow W y (ins ry x p)) z (ins rz y p)) x (ins rx z p)) + 3 := by
      unfold standIn
      rw [put_app (by rw [k3]; exact hp)]
      unfold sumR
      rw [List.map_append, List.sum_append]
      rfl
    have gs := g.sum
    rw [ll, s4]
    omega
  · have cl : ∀ a r b, rowOf W a = some r → b ∈ r → Q a → Q b := fun a r b e hb qa => by
      have ap : a ≠ p := fun q => hp (q ▸ rowOf_mem e)
      have ro := RO a
      rw [if_neg ap] at ro
      split at ro
      · rename_i q; subst q; rw [ex] at e; cases e
        exact hQ a _ b ro ((mem_ins hzx (np a _ ex)).mpr (.inl hb)) qa
      · split at ro
        · rename_i q; subst q; rw [ez] at e; cases e
          exact hQ a _ b ro ((mem_ins hyz (np a _ ez)).mpr (.inl hb)) qa
        · split at ro
          · rename_i q; subst q; rw [ey] at e; cases e
            exact hQ a _ b ro ((mem_ins hx (np a _ ey)).mpr (.inl hb)) qa
          · exact hQ a r b (ro.trans e) hb qa
    have rp : rowOf (standIn W p x y z rx ry rz) p = some [y, x, z] := by rw [RO, if_pos rfl]
    have rx' : rowOf (standIn W p x y z rx ry rz) x = some (ins rx z p) := by rw [RO, if_neg xp, if_pos rfl]
    have px : Q p → Q x := hQ p _ x rp (by simp)
    have xp' : Q x → Q p := hQ x _ p rx' ((mem_ins hzx (np x rx ex)).mpr (.inr rfl))
    rw [KO, List.mem_append, List.mem_singleton] at ha hb
    have qx : Q x := by
      rcases ha with ha | rfl
      · exact g.con Q cl a x ha (rowOf_mem ex) q
      · exact px q
    rcases hb with hb | rfl
    · exact g.con Q cl x b (rowOf_mem ex) hb qx
    · exact xp' qx
/-! ### how the law's flat webs come about -/
inductive Made : WL → Prop
  | bare (os : List Int) : os.Nodup → Made (os.map fun p => (p, []))
  | thin (W : WL) (P : Int → Int → Bool) : Tri W → Grw W → W ≠ [] → (∀ u v, P u v = P v u) → Made (mapRows (fun u r => r.filter (P u)) W)
  | join (W V : WL) : Web W → Web V → (∀ u, u ∈ keysOf' W → u ∉ keysOf' V) → Made W → Made V → Made (W ++ V)
  | turn (W V : WL) : Web W → (keysOf' V).Perm (keysOf' W) → (∀ u r, rowOf W u = some r → ∃ k, rowOf V u = some (r.drop k ++ r.take k)) → Made W → Made V

def b__law_names : XS := (sSeq (sAsg (xCall g__law_next (xCons (xVar 0) xNil)) (gNm 2))
    (sSeq (sAsg (xOp opIx (xLst (xCons (xC (.int 1)) (xCons (xC (.int 3)) (xCons (xC (.int 7)) (xCons (xC (.int 9)) (xCons (xC (.int 11)) (xCons (xC (.int 13)) (xCons (xC (.int 271)) (xCons (xC (.int 389)) (xCons (xC (.int 613)) (xCons (xC (.int 997)) xNil))))))))))) (xOp opMod (xOp opDiv (xVar 2) (xC (.int 1000))) (xC (.int 10)))) (gNm 3))
    (sRet (xLc (iRange1 (xVar 1)) (gNm 4) cYes (xOp opMod (xOp opAdd (xOp opMod (xVar 2) (xC (.int 1000))) (xOp opMul (xVar 4) (xVar 3))) (xC (.int 1000))) [4]))))
def g__law_names : Fn := runDef 5 b__law_names
theorem d__law_names {x0 x1 : MV} {h : MH} {R : MV → MH → Prop} (w : Wp (b__law_names [some x0, some x1, none, none, none] h) fun f _ h1 => kR f fun v => R v h1) : We (g__law_names [x0, x1] h) R := we_def w

/-- unlike names -/
def Names (ns : List Int) : Prop := ns.Nodup ∧ ∀ u ∈ ns, 0 ≤ u ∧ u < 1000
theorem names_at (ds : List Int) (d : Nat) (h : MH) (e : h[d]? = some (.lst (ds.map .int))) (hd : Drawn ds) (many : Nat) (hm : many ≤ 200) : ∃ ns : List Int, Names ns ∧ ns.length = many ∧ g__law_names [.ref d, .int (many : Nat)] h = some (.lst (ns.map .int), h.set d (.lst (ds.tail.map .int))) := by
  obtain ⟨n0, n1⟩ := hd.head
  have en := next_at ds d h e
  generalize ds.headD 0 = n at n0 n1 en
  generalize h.set d (.lst (ds.tail.map .int)) = h1 at en ⊢
  have c2 : ∃ y : Int, (y = 1 ∨ y = 3 ∨ y = 7 ∨ y = 9 ∨ y = 11 ∨ y = 13 ∨ y = 271 ∨ y = 389 ∨ y = 613 ∨ y = 997) ∧ atM [.int 1, .int 3, .int 7, .int 9, .int 11, .int 13, .int 271, .int 389, .int 613, .int 997] (n / 1000 % 10) = some (.int y) := by
    have h4 : n / 1000 % 10 = 0 ∨ n / 1000 % 10 = 1 ∨ n / 1000 % 10 = 2 ∨ n / 1000 % 10 = 3 ∨ n / 1000 % 10 = 4 ∨ n / 1000 % 10 = 5 ∨ n / 1000 % 10 = 6 ∨ n / 1000 % 10 = 7 ∨ n / 1000 % 10 = 8 ∨ n / 1000 % 10 = 9 := by omega
    rcases h4 with q | q | q | q | q | q | q | q | q | q <;> rw [q]
    · exact ⟨1, by omega, rfl⟩
    · exact ⟨3, by omega, rfl⟩
    · exact ⟨7, by omega, rfl⟩
    · exact ⟨9, by omega, rfl⟩
    · exact ⟨11, by omega, rfl⟩
    · exact ⟨13, by omega, rfl⟩
    · exact ⟨271, by omega, rfl⟩
    · exact ⟨389, by omega, rfl⟩
    · exact ⟨613, by omega, rfl⟩
    · exact ⟨997, by omega, rfl⟩
  obtain ⟨y, hy, ey⟩ := c2
  have yb : 0 < y ∧ y < 1000 := by omega
  refine ⟨(List.range many).map fun k : Nat => (n % 1000 + (k : Int) * y) % 1000, ⟨?_, ?_⟩, by simp, ?_⟩
  · show List.Pairwise (· ≠ ·) _
    rw [List.pairwise_map]
    refine List.Pairwise.imp_of_mem ?_ (List.nodup_range (n := many))
    intro i j hi hj hne eq
    rw [List.mem_range] at hi hj
    exact hne (by have := step_inj hy (show 0 ≤ (i : Int) ∧ (i : Int) < 1000 by omega) (show 0 ≤ (j : Int) ∧ (j : Int) < 1000 by omega) eq; omega)
  · intro u hu
    obtain ⟨k, _, rfl⟩ := List.mem_map.mp hu
    exact ⟨Int.emod_nonneg _ (by decide), Int.emod_lt_of_pos _ (by decide)⟩
  · have lc : lcGo (gNm 4) cYes (xOp opMod (xOp opAdd (xOp opMod (xVar 2) (xC (.int 1000))) (xOp opMul (xVar 4) (xVar 3))) (xC (.int 1000))) [] (rngM 0 many) [some (.ref d), some (.int (many : Nat)), some (.int n), some (.int y), none] h1 = some ((List.range many).map fun k : Nat => MV.int ((n % 1000 + (k : Int) * y) % 1000), h1) := by
      have := lcGo_all (g := gNm 4) (c := cYes) (e := xOp opMod (xOp opAdd (xOp opMod (xVar 2) (xC (.int 1000))) (xOp opMul (xVar 4) (xVar 3))) (xC (.int 1000))) (s := [some (.ref d), some (.int (many : Nat)), some (.int n), some (.int y), none]) (h := h1) (fun k : Nat => MV.int (0 + (k : Int))) (fun k : Nat => MV.int ((n % 1000 + (k : Int) * y) % 1000)) (List.range many) [] (by rw [List.length_range, List.length_nil]; unfold szLine; omega) (fun k hk => by
        rw [List.mem_range] at hk
        refine ⟨[some (.ref d), some (.int (many : Nat)), some (.int n), some (.int y), some (.int (0 + (k : Int)))], rfl, rfl, ?_⟩
        rw [Int.zero_add]
        simp (discharger := omega) only [sSeq, sAsg, sIf, sRet, sRetN, sExpr, sNext, sPar, sPar3, sBk, sCt, sFor, sPut, gNm, gTp, gsCons, gsNil, xVar, xC, xOp, xUn, xCons, xNil, xArgs, xCall, xTup, xLst, xBox, boxM, xIf, xAnd, xOr, xNot, xB, xAndT, xOrT, xNotT, xAppend, xPop, xPopAt, xExtend, xExtendT, xSlL, xPart, xNoPart, iSeq, iRange1, iRange2, cYes, seqOf, listOf, isLstC, runDef, sBegin, List.map_cons, List.map_nil, List.length_cons, List.length_nil, List.getElem?_cons_zero, List.getElem?_cons_succ, List.getElem?_nil, List.set_cons_zero, List.set_cons_succ, List.cons_append, List.nil_append, List.append_nil, Nat.sub_self, Nat.zero_add, Nat.reduceAdd, Nat.reduceSub, Nat.add_one_sub_one, List.replicate_zero, List.replicate_succ, Option.map_some, if_true, if_false, decide_true, decide_false, Bool.not_true, Bool.not_false, Bool.true_or, Bool.false_or, Bool.or_true, Bool.or_false, Bool.true_and, Bool.false_and, Bool.and_true, Bool.and_false, beq_self_eq_true, opAdd, opSub, opNeg, opLt, opLe, opGt, opGe, opIx, fLen, fAbs, fMax2, fMin2, fIsi, tyN, fList, fTuple, fDictP, opCat, opCatT, lstC, fKeys, fKeysS, fSorted, xPairs, xDisp, xUpdate, sForK, gLp, fKeysT, opRevT, iEnumT, keyOf, keyV, opIsBl, opNotBl, dictK, st_NoneType_bool, st_NoneType_int, st_NoneType_str, st_NoneType_tuple, st_NoneType_list, st_NoneType_dict, st_bool_bool, st_bool_int, st_bool_str, st_bool_tuple, st_bool_list, st_bool_dict, st_int_bool, st_int_int, st_int_str, st_int_tuple, st_int_list, st_int_dict, st_str_bool, st_str_int, st_str_str, st_str_tuple, st_str_list, st_str_dict, st_tuple_bool, st_tuple_int, st_tuple_str, st_tuple_tuple, st_tuple_list, st_tuple_dict, st_list_bool, st_list_int, st_list_str, st_list_tuple, st_list_list, st_list_dict, st_dict_bool, st_dict_int, st_dict_str, st_dict_tuple, st_dict_list, st_dict_dict, mod_ok, mul_ok])
      exact this
    have tn : (((many : Nat) : Int)).toNat = many := by omega
    have rg := rng1_at (e := xVar 1) (s := [some (.ref d), some (.int (many : Nat)), some (.int n), some (.int y), none]) (h := h1) (h1 := h1) (j := (many : Nat)) rfl (by omega)
    rw [tn] at rg
    refine run_rt (b := b__law_names) (s := [some (.ref d), some (.int (many : Nat)), some (.int n), some (.int y), none]) ((seq_nx (s1 := [some (.ref d), some (.int (many : Nat)), some (.int n), none, none]) (h1 := h1) ?_).trans ((seq_nx (s1 := [some (.ref d), some (.int (many : Nat)), some (.int n), some (.int y), none]) (h1 := h1) ?_).trans ?_))
    · simp only [ews, en]
    · simp (discharger := omega) only [sSeq, sAsg, sIf, sRet, sRetN, sExpr, sNext, sPar, sPar3, sBk, sCt, sFor, sPut, gNm, gTp, gsCons, gsNil, xVar, xC, xOp, xUn, xCons, xNil, xArgs, xCall, xTup, xLst, xBox, boxM, xIf, xAnd, xOr, xNot, xB, xAndT, xOrT, xNotT, xAppend, xPop, xPopAt, xExtend, xExtendT, xSlL, xPart, xNoPart, iSeq, iRange1, iRange2, cYes, seqOf, listOf, isLstC, runDef, sBegin, List.map_cons, List.map_nil, List.length_cons, List.length_nil, List.getElem?_cons_zero, List.getElem?_cons_succ, List.getElem?_nil, List.set_cons_zero, List.set_cons_succ, List.cons_append, List.nil_append, List.append_nil, Nat.sub_self, Nat.zero_add, Nat.reduceAdd, Nat.reduceSub, Nat.add_one_sub_one, List.replicate_zero, List.replicate_succ, Option.map_some, if_true, if_false, decide_true, decide_false, Bool.not_true, Bool.not_false, Bool.true_or, Bool.false_or, Bool.or_true, Bool.or_false, Bool.true_and, Bool.false_and, Bool.and_true, Bool.and_false, beq_self_eq_true, opAdd, opSub, opNeg, opLt, opLe, opGt, opGe, opIx, fLen, fAbs, fMax2, fMin2, fIsi, tyN, fList, fTuple, fDictP, opCat, opCatT, lstC, fKeys, fKeysS, fSorted, xPairs, xDisp, xUpdate, sForK, gLp, fKeysT, opRevT, iEnumT, keyOf, keyV, opIsBl, opNotBl, dictK, st_NoneType_bool, st_NoneType_int, st_NoneType_str, st_NoneType_tuple, st_NoneType_list, st_NoneType_dict, st_bool_bool, st_bool_int, st_bool_str, st_bool_tuple, st_bool_list, st_bool_dict, st_int_bool, st_int_int, st_int_str, st_int_tuple, st_int_list, st_int_dict, st_str_bool, st_str_int, st_str_str, st_str_tuple, st_str_list, st_str_dict, st_tuple_bool, st_tuple_int, st_tuple_str, st_tuple_tuple, st_tuple_list, st_tuple_dict, st_list_bool, st_list_int, st_list_str, st_list_tuple, st_list_list, st_list_dict, st_dict_bool, st_dict_int, st_dict_str, st_dict_tuple, st_dict_list, st_dict_dict, div_ok, mod_ok, ey]
    · rw [List.map_map]
      exact ret_at (lc_at rg lc)

def b__law_behind : XS := (sSeq (sAsg (xOp opIx (xVar 0) (xVar 2)) (gNm 3))
    (sRet (xTup (xCons (xVar 2) (xCons (xOp opIx (xVar 3) (xOp opMod (xOp opAdd (xOp opIndexL (xVar 3) (xVar 1)) (xC (.int 1))) (xArgs fLen (xCons (xVar 3) xNil)))) xNil)))))
def g__law_behind : Fn := runDef 4 b__law_behind
theorem d__law_behind {x0 x1 x2 : MV} {h : MH} {R : MV → MH → Prop} (w : Wp (b__law_behind [some x0, some x1, some x2, none] h) fun f _ h1 => kR f fun v => R v h1) : We (g__law_behind [x0, x1, x2] h) R := we_def w

theorem behind_at (h : MH) (rows : MV) (u v : Int) (r : List Int) (e : opIx h rows (.int v) = some (.lst (r.map .int))) (hu : u ∈ r) : g__law_behind [rows, .int u, .int v] h = some (.tup [.int v, .int (nxt r u)], h) := by
  have hl : 0 < r.length := List.length_pos_of_mem hu
  have hi : r.idxOf u < r.length := List.idxOf_lt_length_iff.mpr hu
  have em : (((r.idxOf u : Nat) : Int) + 1) % ((r.length : Nat) : Int) = (((r.idxOf u + 1) % r.length : Nat) : Int) := by rw [Int.natCast_emod]; rfl
  have el : (r.idxOf u + 1) % r.length < r.length := Nat.mod_lt _ hl
  have ea : atM (r.map MV.int) (((r.idxOf u + 1) % r.length : Nat) : Int) = some (.int (nxt r u)) := at_nat (by
    rw [List.getElem?_map, nxt, List.getElem?_eq_getElem el]; rfl)
  refine run_rt (b := b__law_behind) (s := [some rows, some (.int u), some (.int v), some (.lst (r.map .int))]) ((seq_nx (s1 := [some rows, some (.int u), some (.int v), some (.lst (r.map .int))]) (h1 := h) ?_).trans ?_)
  · simp only [ewd, e]
  · simp (discharger := omega) only [sSeq, sAsg, sIf, sRet, sRetN, sExpr, sNext, sPar, sPar3, sBk, sCt, sFor, sPut, gNm, gTp, gsCons, gsNil, xVar, xC, xOp, xUn, xCons, xNil, xArgs, xCall, xTup, xLst, xBox, boxM, xIf, xAnd, xOr, xNot, xB, xAndT, xOrT, xNotT, xAppend, xPop, xPopAt, xExtend, xExtendT, xSlL, xPart, xNoPart, iSeq, iRange1, iRange2, cYes, seqOf, listOf, isLstC, runDef, sBegin, List.map_cons, List.map_nil, List.length_cons, List.length_nil, List.getElem?_cons_zero, List.getElem?_cons_succ, List.getElem?_nil, List.set_cons_zero, List.set_cons_succ, List.cons_append, List.nil_append, List.append_nil, Nat.sub_self, Nat.zero_add, Nat.reduceAdd, Nat.reduceSub, Nat.add_one_sub_one, List.replicate_zero, List.replicate_succ, Option.map_some, if_true, if_false, decide_true, decide_false, Bool.not_true, Bool.not_false, Bool.true_or, Bool.false_or, Bool.or_true, Bool.or_false, Bool.true_and, Bool.false_and, Bool.and_true, Bool.and_false, beq_self_eq_true, opAdd, opSub, opNeg, opLt, opLe, opGt, opGe, fLen, fAbs, fMax2, fMin2, fIsi, tyN, fList, fTuple, fDictP, opCat, opCatT, lstC, fKeys, fKeysS, fSorted, xPairs, xDisp, xUpdate, sForK, gLp, fKeysT, opRevT, iEnumT, keyOf, keyV, opIsBl, opNotBl, dictK, st_NoneType_bool, st_NoneType_int, st_NoneType_str, st_NoneType_tuple, st_NoneType_list, st_NoneType_dict, st_bool_bool, st_bool_int, st_bool_str, st_bool_tuple, st_bool_list, st_bool_dict, st_int_bool, st_int_int, st_int_str, st_int_tuple, st_int_list, st_int_dict, st_str_bool, st_str_int, st_str_str, st_str_tuple, st_str_list, st_str_dict, st_tuple_bool, st_tuple_int, st_tuple_str, st_tuple_tuple, st_tuple_list, st_tuple_dict, st_list_bool, st_list_int, st_list_str, st_list_tuple, st_list_list, st_list_dict, st_dict_bool, st_dict_int, st_dict_str, st_dict_tuple, st_dict_list, st_dict_dict, index_at hu, ix_l, List.length_map, mod_ok, em, ea]

def b__law_put_behind : XS := (sSeq (sAsg (xOp opAdd (xOp opIndexL (xVar 0) (xVar 1)) (xC (.int 1))) (gNm 3))
    (sRet (xCat (xCat (xSlL (xVar 0) xNoPart (xPart (xVar 3))) (xLst (xCons (xVar 2) xNil))) (xSlL (xVar 0) (xPart (xVar 3)) xNoPart))))
def g__law_put_behind : Fn := runDef 4 b__law_put_behind
theorem d__law_put_behind {x0 x1 x2 : MV} {h : MH} {R : MV → MH → Prop} (w : Wp (b__law_put_behind [some x0, some x1, some x2, none] h) fun f _ h1 => kR f fun v => R v h1) : We (g__law_put_behind [x0, x1, x2] h) R := we_def w

theorem put_behind_at (h : MH) (r : List Int) (a p : Int) (ha : a ∈ r) (hz : r.length < 1000) : g__law_put_behind [.lst (r.map .int), .int a, .int p] h = some (.lst ((ins r a p).map .int), h) := by
  have hi : r.idxOf a < r.length := List.idxOf_lt_length_iff.mpr ha
  have e1 : cutM (r.map MV.int) none (some (((r.idxOf a : Nat) : Int) + 1)) = (r.map MV.int).take (r.idxOf a + 1) := by
    rw [cut_to (by omega)]
    have : (((r.idxOf a : Nat) : Int) + 1).toNat = r.idxOf a + 1 := by omega
    rw [this]
  have e2 : cutM (r.map MV.int) (some (((r.idxOf a : Nat) : Int) + 1)) none = (r.map MV.int).drop (r.idxOf a + 1) := by
    rw [cut_from (by omega)]
    have : (((r.idxOf a : Nat) : Int) + 1).toNat = r.idxOf a + 1 := by omega
    rw [this]
  have z1 : ((r.map MV.int).take (r.idxOf a + 1)).length + 1 ≤ szLine := by rw [List.length_take, List.length_map]; unfold szLine; omega
  have z2 : ((r.map MV.int).take (r.idxOf a + 1) ++ [MV.int p]).length + ((r.map MV.int).drop (r.idxOf a + 1)).length ≤ szLine := by rw [List.length_append, List.length_take, List.length_drop, List.length_map]; simp only [List.length_singleton]; unfold szLine; omega
  have e3 : (ins r a p).map MV.int = (r.map MV.int).take (r.idxOf a + 1) ++ [.int p] ++ (r.map MV.int).drop (r.idxOf a + 1) := by
    unfold ins
    rw [List.map_append, List.map_append, List.map_take, List.map_drop]
    rfl
  rw [e3]
  refine run_rt (b := b__law_put_behind) (s := [some (.lst (r.map .int)), some (.int a), some (.int p), some (.int (((r.idxOf a : Nat) : Int) + 1))]) ((seq_nx (s1 := [some (.lst (r.map .int)), some (.int a), some (.int p), some (.int (((r.idxOf a : Nat) : Int) + 1))]) (h1 := h) ?_).trans ?_)
  · first
      | (simp only [ewd, index_at ha]; done)
      | (simp only [ewd, xIndexB, index_at ha]; done)
  · simp only [ewd, e1, e2, z1, z2, if_true]

def b__law_stand_in : XS := (sSeq (sPut (xVar 0) (xVar 3) (xCall g__law_put_behind (xCons (xOp opIx (xVar 0) (xVar 3)) (xCons (xVar 2) (xCons (xVar 1) xNil)))))
    (sSeq (sPut (xVar 0) (xVar 4) (xCall g__law_put_behind (xCons (xOp opIx (xVar 0) (xVar 4)) (xCons (xVar 3) (xCons (xVar 1) xNil)))))
    (sSeq (sPut (xVar 0) (xVar 2) (xCall g__law_put_behind (xCons (xOp opIx (xVar 0) (xVar 2)) (xCons (xVar 4) (xCons (xVar 1) xNil)))))
    (sPut (xVar 0) (xVar 1) (xLst (xCons (xVar 3) (xCons (xVar 2) (xCons (xVar 4) xNil))))))))
def g__law_stand_in : Fn := runDef 5 b__law_stand_in
theorem d__law_stand_in {x0 x1 x2 x3 x4 : MV} {h : MH} {R : MV → MH → Prop} (w : Wp (b__law_stand_in [some x0, some x1, some x2, some x3, some x4] h) fun f _ h1 => kR f fun v => R v h1) : We (g__law_stand_in [x0, x1, x2, x3, x4] h) R := we_def w

theorem stand_at (h : MH) (m : Nat) (W : WL) (p x y z : Int) (rx ry rz : List Int) (e : h[m]? = some (.dK (rowsV W))) (ex : rowOf W x = some rx) (ey : rowOf W y = some ry) (ez : rowOf W z = some rz) (hx : x ∈ ry) (hy : y ∈ rz) (hz : z ∈ rx)
    (d1 : y ≠ x) (d2 : y ≠ z) (d3 : x ≠ z) (hW : W.length < 900) (lx : rx.length < 1000) (ly : ry.length < 1000) (lz : rz.length < 1000) : g__law_stand_in [.ref m, .int p, .int x, .int y, .int z] h = some (.non, h.set m (.dK (rowsV (standIn W p x y z rx ry rz)))) := by
  have hm : m < h.length := (List.getElem?_eq_some_iff.mp e).1
  have lp : ∀ (V : WL) (u : Int) (r : List Int), (putRow V u r).length ≤ V.length + 1 := fun V u r => by
    rw [← keys_len, ← keys_len, keys_put]; split
    · omega
    · rw [List.length_append]; simp
  have l1 := lp W y (ins ry x p)
  have l2 := lp (putRow W y (ins ry x p)) z (ins rz y p)
  have l3 := lp (putRow (putRow W y (ins ry x p)) z (ins rz y p)) x (ins rx z p)
  have g1 : ∀ V : WL, (h.set m (.dK (rowsV V)))[m]? = some (.dK (rowsV V)) := fun V => List.getElem?_set_self hm
  have s1 : ∀ (V U : WL), (h.set m (.dK (rowsV V))).set m (.dK (rowsV U)) = h.set m (.dK (rowsV U)) := fun V U => by simp
  have ez2 : rowOf (putRow W y (ins ry x p)) z = some rz := by rw [rowOf_put, if_neg (fun q => d2 q.symm)]; exact ez
  have ex2 : rowOf (putRow (putRow W y (ins ry x p)) z (ins rz y p)) x = some rx := by rw [rowOf_put, if_neg d3, rowOf_put, if_neg (fun q => d1 q.symm)]; exact ex
  have st1 : sPut (xVar 0) (xVar 3) (xCall g__law_put_behind (xCons (xOp opIx (xVar 0) (xVar 3)) (xCons (xVar 2) (xCons (xVar 1) xNil)))) [some (.ref m), some (.int p), some (.int x), some (.int y), some (.int z)] h = some (.nx, [some (.ref m), some (.int p), some (.int x), some (.int y), some (.int z)], h.set m (.dK (rowsV (putRow W y (ins ry x p))))) := by
    simp only [ewd, ix_rows e ey, put_behind_at h ry x p hx ly, put_rows e (show W.length < szLine by unfold szLine; omega)]
  have st2 : sPut (xVar 0) (xVar 4) (xCall g__law_put_behind (xCons (xOp opIx (xVar 0) (xVar 4)) (xCons (xVar 3) (xCons (xVar 1) xNil)))) [some (.ref m), some (.int p), some (.int x), some (.int y), some (.int z)] (h.set m (.dK (rowsV (putRow W y (ins ry x p))))) = some (.nx, [some (.ref m), some (.int p), some (.int x), some (.int y), some (.int z)], h.set m (.dK (rowsV (putRow (putRow W y (ins ry x p)) z (ins rz y p))))) := by
    simp only [ewd, ix_rows (g1 _) ez2, put_behind_at _ rz y p hy lz, put_rows (g1 _) (show (putRow W y (ins ry x p)).length < szLine by unfold szLine; omega), s1]
  have st3 : sPut (xVar 0) (xVar 2) (xCall g__law_put_behind (xCons (xOp opIx (xVar 0) (xVar 2)) (xCons (xVar 4) (xCons (xVar 1) xNil)))) [some (.ref m), some (.int p), some (.int x), some (.int y), some (.int z)] (h.set m (.dK (rowsV (putRow (putRow W y (ins ry x p)) z (ins rz y p))))) = some (.nx, [some (.ref m), some (.int p), some (.int x), some (.int y), some (.int z)], h.set m (.dK (rowsV (putRow (putRow (putRow W y (ins ry x p)) z (ins rz y p)) x (ins rx z p))))) := by
    simp only [ewd, ix_rows (g1 _) ex2, put_behind_at _ rx z p hz lx, put_rows (g1 _) (show (putRow (putRow W y (ins ry x p)) z (ins rz y p)).length < szLine by unfold szLine; omega), s1]
  have pr := put_rows (u := p) (r := [y, x, z]) (g1 (putRow (putRow (putRow W y (ins ry x p)) z (ins rz y p)) x (ins rx z p))) (show (putRow (putRow (putRow W y (ins ry x p)) z (ins rz y p)) x (ins rx z p)).length < szLine by unfold szLine; omega)
  rw [s1] at pr
  simp only [List.map_cons, List.map_nil] at pr
  refine run_nx (b := b__law_stand_in) (s := [some (.ref m), some (.int p), some (.int x), some (.int y), some (.int z)]) ((seq_nx st1).trans ((seq_nx st2).trans ((seq_nx st3).trans ?_)))
  simp only [ewd, pr]
  rfl
def B1__law_full : XS := (sSeq (sAsg (xOp opIx (xVar 6) (xOp opMod (xCall g__law_next (xCons (xVar 0) xNil)) (xArgs fLen (xCons (xVar 6) xNil)))) (gTp 2 (gsCons (gNm 8) (gsCons (gNm 9) gsNil))))
    (sSeq (sAsg (xOp opIx (xCall g__law_behind (xCons (xVar 5) (xCons (xVar 8) (xCons (xVar 9) xNil)))) (xC (.int 1))) (gNm 10))
    (sSeq (sExpr (xCall g__law_stand_in (xCons (xVar 5) (xCons (xVar 7) (xCons (xVar 8) (xCons (xVar 9) (xCons (xVar 10) xNil)))))))
    (sAsg (xCat (xVar 6) (xLst (xCons (xTup (xCons (xVar 8) (xCons (xVar 7) xNil))) (xCons (xTup (xCons (xVar 9) (xCons (xVar 7) xNil))) (xCons (xTup (xCons (xVar 10) (xCons (xVar 7) xNil))) (xCons (xTup (xCons (xVar 8) (xCons (xVar 9) xNil))) xNil)))))) (gNm 6)))))
def b__law_full : XS := (sSeq (sAsg (xSlL (xVar 1) xNoPart (xPart (xC (.int 3)))) (gLp 3 (gsCons (gNm 2) (gsCons (gNm 3) (gsCons (gNm 4) gsNil)))))
    (sSeq (sAsg (xBox (xDisp (((xVar 2), (xLst (xCons (xVar 3) (xCons (xVar 4) xNil)))) :: (((xVar 3), (xLst (xCons (xVar 4) (xCons (xVar 2) xNil)))) :: (((xVar 4), (xLst (xCons (xVar 2) (xCons (xVar 3) xNil)))) :: []))))) (gNm 5))
    (sSeq (sAsg (xLst (xCons (xTup (xCons (xVar 2) (xCons (xVar 3) xNil))) (xCons (xTup (xCons (xVar 3) (xCons (xVar 2) xNil))) xNil))) (gNm 6))
    (sSeq (sFor (iSeq (xSlL (xVar 1) (xPart (xC (.int 3))) xNoPart)) (gNm 7) B1__law_full)
    (sRet (xVar 5))))))
def g__law_full : Fn := runDef 11 b__law_full
theorem d__law_full {x0 x1 : MV} {h : MH} {R : MV → MH → Prop} (w : Wp (b__law_full [some x0, some x1, none, none, none, none, none, none, none, none, none] h) fun f _ h1 => kR f fun v => R v h1) : We (g__law_full [x0, x1] h) R := we_def w

def stepsV (S : List (Int × Int)) : List MV := S.map fun p => .tup [.int p.1, .int p.2]
theorem tri_merge {a b c : Int} (h1 : a ≠ b) (h2 : a ≠ c) (h3 : b ≠ c) : mergeM [] [(.inl a, .lst [.int b, .int c]), (.inl b, .lst [.int c, .int a]), (.inl c, .lst [.int a, .int b])] = rowsV (tri0 a b c) := by
  have e : mergeM [] [(.inl a, .lst [.int b, .int c]), (.inl b, .lst [.int c, .int a]), (.inl c, .lst [.int a, .int b])] = putM (putM (putM (rowsV []) (.inl a) (.lst ([b, c].map .int))) (.inl b) (.lst ([c, a].map .int))) (.inl c) (.lst ([a, b].map .int)) := rfl
  rw [e, putM_rows, putM_rows, putM_rows]
  simp [putRow, rowOf, tri0, h1, h2, h3]
theorem full_step (h : MH) (d : Nat) (hd : d < h.length) (ds : List Int) (hD : Drawn ds) (W : WL) (T : Tri W) (S : List (Int × Int)) (hS : S ≠ []) (hl : S.length < 10000) (hs : ∀ q ∈ S, ∃ rx, rowOf W q.1 = some rx ∧ q.2 ∈ rx) (k : Nat) (hk : k < 800) (hr : ∀ u r, rowOf W u = some r → r.length ≤ k) (hW : W.length < 900) (p : Int) (hp : p ∉ keysOf' W) (o1 o2 o3 o4 o8 o9 o10 : Option MV) :
    ∃ W' S' o8' o9' o10', B1__law_full [some (.ref d), o1, o2, o3, o4, some (.ref h.length), some (.lst (stepsV S)), some (.int p), o8, o9, o10] ((h.set d (.lst (ds.map .int))) ++ [.dK (rowsV W)])
      = some (.nx, [some (.ref d), o1, o2, o3, o4, some (.ref h.length), some (.lst (stepsV S')), some (.int p), o8', o9', o10'], (h.set d (.lst (ds.tail.map .int))) ++ [.dK (rowsV W')]) ∧
      Tri W' ∧ keysOf' W' = keysOf' W ++ [p] ∧ S' ≠ [] ∧ S'.length = S.length + 4 ∧ (∀ q ∈ S', ∃ rx, rowOf W' q.1 = some rx ∧ q.2 ∈ rx) ∧ (∀ u r, rowOf W' u = some r → r.length ≤ k + 3) ∧ (Grw W → Grw W') := by
  obtain ⟨n0, n1⟩ := hD.head
  have hd' : d < (h.set d (.lst (ds.map .int))).length := by simpa using hd
  have en := next_at ds d ((h.set d (.lst (ds.map .int))) ++ [.dK (rowsV W)]) (get_app (get_set hd))
  rw [set_app hd] at en
  generalize ds.headD 0 = n at n0 n1 en
  obtain ⟨⟨x, y⟩, hq, ep⟩ := pick (f := fun q : Int × Int => MV.tup [.int q.1, .int q.2]) n0 hS
  obtain ⟨rx, ex, hy⟩ := hs _ hq
  simp only at ex hy ep
  obtain ⟨ry, ey, _⟩ := T.sym x y rx ex hy
  obtain ⟨hx, rz, ez, hz, hyz, hzx, hxz, d1, d2, d3, f1, f2⟩ := T.corners ex hy ey
  obtain ⟨T', RO, KO⟩ := T.stand ex hy ey ez hp
  generalize hze : nxt ry x = z at *
  have gl : ∀ V : WL, ((h.set d (.lst (ds.tail.map .int))) ++ [.dK (rowsV V)])[h.length]? = some (.dK (rowsV V)) := fun V => get_end (by simp)
  have be := behind_at ((h.set d (.lst (ds.tail.map .int))) ++ [.dK (rowsV W)]) (.ref h.length) x y ry (ix_rows (gl W) ey) hx
  rw [hze] at be
  have l1 := hr x rx ex
  have l2 := hr y ry ey
  have l3 := hr z rz ez
  have sa := stand_at ((h.set d (.lst (ds.tail.map .int))) ++ [.dK (rowsV W)]) h.length W p x y z rx ry rz (gl W) ex ey ez hx hyz hzx d1 d2 d3 hW (by omega) (by omega) (by omega)
  rw [set_end (by simp)] at sa
  have sv : stepsV (S ++ [(x, p), (y, p), (z, p), (x, y)]) = stepsV S ++ [.tup [.int x, .int p], .tup [.int y, .int p], .tup [.int z, .int p], .tup [.int x, .int y]] := by simp [stepsV]
  have sl : (stepsV S).length = S.length := by simp [stepsV]
  have zl : S.length + 4 ≤ szLine := by unfold szLine; omega
  have hSl : 0 < S.length := List.length_pos_iff.mpr hS
  have hpx : x ≠ p := fun e => hp (by rw [← e]; exact rowOf_mem ex)
  have hpy : y ≠ p := fun e => hp (by rw [← e]; exact rowOf_mem ey)
  have hpz : z ≠ p := fun e => hp (by rw [← e]; exact rowOf_mem ez)
  have np : ∀ u r, rowOf W u = some r → p ∉ r := fun u r e q => by
    obtain ⟨r', e', _⟩ := T.sym u p r e q
    exact hp (rowOf_mem e')
  have Rx : rowOf (standIn W p x y z rx ry rz) x = some (ins rx z p) := by rw [RO, if_neg hpx, if_pos rfl]
  have Ry : rowOf (standIn W p x y z rx ry rz) y = some (ins ry x p) := by rw [RO, if_neg hpy, if_neg d1, if_neg d2, if_pos rfl]
  have Rz : rowOf (standIn W p x y z rx ry rz) z = some (ins rz y p) := by rw [RO, if_neg hpz, if_neg (fun e => d3 e.symm), if_pos rfl]
  refine ⟨standIn W p x y z rx ry rz, S ++ [(x, p), (y, p), (z, p), (x, y)], some (.int x), some (.int y), some (.int z), ?_, T', KO, by simp, by simp, ?_, ?_, fun g => by have := grw_stand T g ex hy ey (by rw [hze]; exact ez) hp; rw [hze] at this; exact this⟩
  · have st1 : sAsg (xOp opIx (xVar 6) (xOp opMod (xCall g__law_next (xCons (xVar 0) xNil)) (xArgs fLen (xCons (xVar 6) xNil)))) (gTp 2 (gsCons (gNm 8) (gsCons (gNm 9) gsNil))) [some (.ref d), o1, o2, o3, o4, some (.ref h.length), some (.lst (stepsV S)), some (.int p), o8, o9, o10] ((h.set d (.lst (ds.map .int))) ++ [.dK (rowsV W)]) = some (.nx, [some (.ref d), o1, o2, o3, o4, some (.ref h.length), some (.lst (stepsV S)), some (.int p), some (.int x), some (.int y), o10], (h.set d (.lst (ds.tail.map .int))) ++ [.dK (rowsV W)]) := by
      simp (discharger := omega) only [sSeq, sAsg, sIf, sRet, sRetN, sExpr, sNext, sPar, sPar3, sBk, sCt, sFor, sPut, gNm, gTp, gsCons, gsNil, xVar, xC, xOp, xUn, xCons, xNil, xArgs, xCall, xTup, xLst, xBox, boxM, xIf, xAnd, xOr, xNot, xB, xAndT, xOrT, xNotT, xAppend, xPop, xPopAt, xExtend, xExtendT, xSlL, xPart, xNoPart, iSeq, iRange1, iRange2, cYes, seqOf, listOf, isLstC, runDef, sBegin, List.map_cons, List.map_nil, List.length_cons, List.length_nil, List.getElem?_cons_zero, List.getElem?_cons_succ, List.getElem?_nil, List.set_cons_zero, List.set_cons_succ, List.cons_append, List.nil_append, List.append_nil, Nat.sub_self, Nat.zero_add, Nat.reduceAdd, Nat.reduceSub, Nat.add_one_sub_one, List.replicate_zero, List.replicate_succ, Option.map_some, if_true, if_false, decide_true, decide_false, Bool.not_true, Bool.not_false, Bool.true_or, Bool.false_or, Bool.or_true, Bool.or_false, Bool.true_and, Bool.false_and, Bool.and_true, Bool.and_false, beq_self_eq_true, opAdd, opSub, opNeg, opLt, opLe, opGt, opGe, fLen, fAbs, fMax2, fMin2, fIsi, tyN, fList, fTuple, fDictP, opCat, opCatT, lstC, fKeys, fKeysS, fSorted, xPairs, xDisp, xUpdate, sForK, gLp, fKeysT, opRevT, iEnumT, keyOf, keyV, opIsBl, opNotBl, dictK, st_NoneType_bool, st_NoneType_int, st_NoneType_str, st_NoneType_tuple, st_NoneType_list, st_NoneType_dict, st_bool_bool, st_bool_int, st_bool_str, st_bool_tuple, st_bool_list, st_bool_dict, st_int_bool, st_int_int, st_int_str, st_int_tuple, st_int_list, st_int_dict, st_str_bool, st_str_int, st_str_str, st_str_tuple, st_str_list, st_str_dict, st_tuple_bool, st_tuple_int, st_tuple_str, st_tuple_tuple, st_tuple_list, st_tuple_dict, st_list_bool, st_list_int, st_list_str, st_list_tuple, st_list_list, st_list_dict, st_dict_bool, st_dict_int, st_dict_str, st_dict_tuple, st_dict_list, st_dict_dict, en, sl, mod_ok, ix_l, show stepsV S = S.map (fun q : Int × Int => MV.tup [.int q.1, .int q.2]) from rfl, List.length_map, ep]
    have st2 : sAsg (xOp opIx (xCall g__law_behind (xCons (xVar 5) (xCons (xVar 8) (xCons (xVar 9) xNil)))) (xC (.int 1))) (gNm 10) [some (.ref d), o1, o2, o3, o4, some (.ref h.length), some (.lst (stepsV S)), some (.int p), some (.int x), some (.int y), o10] ((h.set d (.lst (ds.tail.map .int))) ++ [.dK (rowsV W)]) = some (.nx, [some (.ref d), o1, o2, o3, o4, some (.ref h.length), some (.lst (stepsV S)), some (.int p), some (.int x), some (.int y), some (.int z)], (h.set d (.lst (ds.tail.map .int))) ++ [.dK (rowsV W)]) := by
      simp only [ewd, be, ix_t, at_1]
    have st3 : sExpr (xCall g__law_stand_in (xCons (xVar 5) (xCons (xVar 7) (xCons (xVar 8) (xCons (xVar 9) (xCons (xVar 10) xNil)))))) [some (.ref d), o1, o2, o3, o4, some (.ref h.length), some (.lst (stepsV S)), some (.int p), some (.int x), some (.int y), some (.int z)] ((h.set d (.lst (ds.tail.map .int))) ++ [.dK (rowsV W)]) = some (.nx, [some (.ref d), o1, o2, o3, o4, some (.ref h.length), some (.lst (stepsV S)), some (.int p), some (.int x), some (.int y), some (.int z)], (h.set d (.lst (ds.tail.map .int))) ++ [.dK (rowsV (standIn W p x y z rx ry rz))]) := by
      simp only [ewd, sa]
    refine (seq_nx st1).trans ((seq_nx st2).trans ((seq_nx st3).trans ?_))
    simp only [ewd, sv, sl, zl, if_true]
  · intro q hq
    rcases List.mem_append.mp hq with h1 | h1
    · obtain ⟨r, er, hm⟩ := hs q h1
      have qp : q.1 ≠ p := fun e => hp (by rw [← e]; exact rowOf_mem er)
      rw [RO, if_neg qp]
      split
      · rename_i e; rw [e, ex] at er; cases er
        exact ⟨_, rfl, (mem_ins hzx (np x _ ex)).mpr (.inl hm)⟩
      · split
        · rename_i e; rw [e, ez] at er; cases er
          exact ⟨_, rfl, (mem_ins hyz (np z _ ez)).mpr (.inl hm)⟩
        · split
          · rename_i e; rw [e, ey] at er; cases er
            exact ⟨_, rfl, (mem_ins hx (np y _ ey)).mpr (.inl hm)⟩
          · exact ⟨r, er, hm⟩
    · simp only [List.mem_cons, List.not_mem_nil, or_false] at h1
      rcases h1 with rfl | rfl | rfl | rfl
      · exact ⟨_, Rx, (mem_ins hzx (np x rx ex)).mpr (.inr rfl)⟩
      · exact ⟨_, Ry, (mem_ins hx (np y ry ey)).mpr (.inr rfl)⟩
      · exact ⟨_, Rz, (mem_ins hyz (np z rz ez)).mpr (.inr rfl)⟩
      · exact ⟨_, Rx, (mem_ins hzx (np x rx ex)).mpr (.inl hy)⟩
  · intro u r e
    rw [RO] at e
    split at e
    · cases e; simp
    · split at e
      · cases e; rw [len_ins hzx (np x rx ex)]; omega
      · split at e
        · cases e; rw [len_ins hyz (np z rz ez)]; omega
        · split at e
          · cases e; rw [len_ins hx (np y ry ey)]; omega
          · have := hr u r e; omega
theorem full_grw (h : MH) (d : Nat) (ds : List Int) (e : h[d]? = some (.lst (ds.map .int))) (hD : Drawn ds) (ns : List Int) (hn : Names ns) (l3 : 3 ≤ ns.length) (l2 : ns.length ≤ 200) :
    ∃ W ds', Tri W ∧ Grw W ∧ keysOf' W = ns ∧ Drawn ds' ∧ (toldF g__law_full) [.ref d, .lst (ns.map .int)] h = some (.dK (rowsV W), h.set d (.lst (ds'.map .int))) := by
  have hd : d < h.length := (List.getElem?_eq_some_iff.mp e).1
  match ns, hn, l3, l2 with
  | a :: b :: c :: rest, hn, l3, l2 =>
    have nd := hn.1
    simp only [List.nodup_cons, List.mem_cons, not_or] at nd
    obtain ⟨⟨n1, n2, n3⟩, ⟨n4, n5⟩, n6, n7⟩ := nd
    have T0 := tri0_ok n1 n2 n4
    have hset : h = h.set d (.lst (ds.map .int)) := (set_same e).symm
    simp only [List.length_cons] at l2
    obtain ⟨s', h', eg, W, ds', S, o7, o8, o9, o10, rfl, rfl, T, G, K, D', S1, S2, S3, S4⟩ := forGo_run (g := gNm 7) (b := B1__law_full)
      (fun i s h1 => ∃ W ds' S o7 o8 o9 o10, s = [some (.ref d), some (.lst ((a :: b :: c :: rest).map .int)), some (.int a), some (.int b), some (.int c), some (.ref h.length), some (.lst (stepsV S)), o7, o8, o9, o10] ∧ h1 = (h.set d (.lst (ds'.map .int))) ++ [.dK (rowsV W)] ∧
        Tri W ∧ Grw W ∧ keysOf' W = (a :: b :: c :: rest).take (3 + i) ∧ Drawn ds' ∧ S ≠ [] ∧ S.length = 2 + 4 * i ∧ (∀ q ∈ S, ∃ rx, rowOf W q.1 = some rx ∧ q.2 ∈ rx) ∧ ∀ u r, rowOf W u = some r → r.length ≤ 2 + 3 * i)
      (rest.map .int) 0 [some (.ref d), some (.lst ((a :: b :: c :: rest).map .int)), some (.int a), some (.int b), some (.int c), some (.ref h.length), some (.lst (stepsV [(a, b), (b, a)])), none, none, none, none] ((h.set d (.lst (ds.map .int))) ++ [.dK (rowsV (tri0 a b c))])
      ⟨tri0 a b c, ds, [(a, b), (b, a)], none, none, none, none, rfl, rfl, T0, grw_tri0 n1 n2 n4, rfl, hD, by simp, by simp, by
        intro q hq
        simp only [List.mem_cons, List.not_mem_nil, or_false] at hq
        rcases hq with rfl | rfl
        · exact ⟨[b, c], by simp [tri0, rowOf], by simp⟩
        · exact ⟨[c, a], by simp [tri0, rowOf, n1], by simp⟩, by
        intro u r er
        have := mem_of_rowOf er
        simp only [tri0, List.mem_cons, List.not_mem_nil, or_false, Prod.mk.injEq] at this
        rcases this with ⟨_, rfl⟩ | ⟨_, rfl⟩ | ⟨_, rfl⟩ <;> simp⟩ (by
      rintro i x s h1 ex ⟨W, ds', S, o7, o8, o9, o10, rfl, rfl, T, G, K, D', S1, S2, S3, S4⟩
      rw [List.getElem?_map] at ex
      cases er : rest[i]? with
      | none => rw [er] at ex; cases ex
      | some p =>
        rw [er] at ex
        cases ex
        obtain ⟨hi, hpe⟩ := List.getElem?_eq_some_iff.mp er
        have e3 : (a :: b :: c :: rest)[3 + i]? = some p := by rw [Nat.add_comm 3 i]; exact er
        have K2 : (a :: b :: c :: rest).take (3 + (0 + i + 1)) = keysOf' W ++ [p] := by
          rw [K, show 3 + (0 + i + 1) = (3 + (0 + i)) + 1 by omega, List.take_add_one, show 3 + (0 + i) = 3 + i by omega, e3]
          rfl
        have hp : p ∉ keysOf' W := by
          have nd2 : ((a :: b :: c :: rest).take (3 + (0 + i + 1))).Nodup := hn.1.sublist (List.take_sublist _ _)
          rw [K2, List.nodup_append] at nd2
          exact fun hm => nd2.2.2 p hm p (by simp) rfl
        have hWl : W.length ≤ 3 + i := by rw [← keys_len, K, List.length_take]; omega
        obtain ⟨W', S', o8', o9', o10', g1, g2, g3, g4, g5, g6, g7, g8⟩ := full_step h d hd ds' D' W T S S1 (by omega) S3 (2 + 3 * (0 + i)) (by omega) S4 (by omega) p hp (some (.lst ((a :: b :: c :: rest).map .int))) (some (.int a)) (some (.int b)) (some (.int c)) o8 o9 o10
        exact ⟨_, _, .nx, _, _, rfl, g1, .inl rfl, W', ds'.tail, S', _, _, _, _, rfl, rfl, g2, g8 G, by rw [g3, K2], D'.tail, g4, by omega, g6, fun u r er => by have := g7 u r er; omega⟩)
    rw [Nat.zero_add] at K
    have K' : keysOf' W = a :: b :: c :: rest := by rw [K, List.take_of_length_le (by simp only [List.length_map, List.length_cons]; omega)]
    refine ⟨W, ds', T, G, K', D', ?_⟩
    have e1 : cutM (.int a :: .int b :: .int c :: rest.map MV.int) none (some 3) = [.int a, .int b, .int c] := by rw [cut_to (by omega)]; rfl
    have e2 : cutM (.int a :: .int b :: .int c :: rest.map MV.int) (some 3) none = rest.map .int := by rw [cut_from (by omega)]; rfl
    have tm := tri_merge n1 n2 n4
    have st1 : sAsg (xSlL (xVar 1) xNoPart (xPart (xC (.int 3)))) (gLp 3 (gsCons (gNm 2) (gsCons (gNm 3) (gsCons (gNm 4) gsNil)))) [some (.ref d), some (.lst ((a :: b :: c :: rest).map .int)), none, none, none, none, none, none, none, none, none] h = some (.nx, [some (.ref d), some (.lst ((a :: b :: c :: rest).map .int)), some (.int a), some (.int b), some (.int c), none, none, none, none, none, none], h) := by
      simp only [ewd, e1]
    have st2 : sAsg (xBox (xDisp (((xVar 2), (xLst (xCons (xVar 3) (xCons (xVar 4) xNil)))) :: (((xVar 3), (xLst (xCons (xVar 4) (xCons (xVar 2) xNil)))) :: (((xVar 4), (xLst (xCons (xVar 2) (xCons (xVar 3) xNil)))) :: []))))) (gNm 5) [some (.ref d), some (.lst ((a :: b :: c :: rest).map .int)), some (.int a), some (.int b), some (.int c), none, none, none, none, none, none] h = some (.nx, [some (.ref d), some (.lst ((a :: b :: c :: rest).map .int)), some (.int a), some (.int b), some (.int c), some (.ref h.length), none, none, none, none, none], h ++ [.dK (rowsV (tri0 a b c))]) := by
      simp (discharger := decide) only [sSeq, sAsg, sIf, sRet, sRetN, sExpr, sNext, sPar, sPar3, sBk, sCt, sFor, sPut, gNm, gTp, gsCons, gsNil, xVar, xC, xOp, xUn, xCons, xNil, xArgs, xCall, xTup, xLst, xBox, boxM, xIf, xAnd, xOr, xNot, xB, xAndT, xOrT, xNotT, xAppend, xPop, xPopAt, xExtend, xExtendT, xSlL, xPart, xNoPart, iSeq, iRange1, iRange2, cYes, seqOf, listOf, isLstC, runDef, sBegin, List.map_cons, List.map_nil, List.length_cons, List.length_nil, List.getElem?_cons_zero, List.getElem?_cons_succ, List.getElem?_nil, List.set_cons_zero, List.set_cons_succ, List.cons_append, List.nil_append, List.append_nil, Nat.sub_self, Nat.zero_add, Nat.reduceAdd, Nat.reduceSub, Nat.add_one_sub_one, List.replicate_zero, List.replicate_succ, Option.map_some, if_true, if_false, decide_true, decide_false, Bool.not_true, Bool.not_false, Bool.true_or, Bool.false_or, Bool.or_true, Bool.or_false, Bool.true_and, Bool.false_and, Bool.and_true, Bool.and_false, beq_self_eq_true, opAdd, opSub, opNeg, opLt, opLe, opGt, opGe, fLen, fAbs, fMax2, fMin2, fIsi, tyN, fList, fTuple, fDictP, opCat, opCatT, lstC, fKeys, fKeysS, fSorted, xPairs, xDisp, xUpdate, sForK, gLp, fKeysT, opRevT, iEnumT, keyOf, keyV, opIsBl, opNotBl, dictK, st_NoneType_bool, st_NoneType_int, st_NoneType_str, st_NoneType_tuple, st_NoneType_list, st_NoneType_dict, st_bool_bool, st_bool_int, st_bool_str, st_bool_tuple, st_bool_list, st_bool_dict, st_int_bool, st_int_int, st_int_str, st_int_tuple, st_int_list, st_int_dict, st_str_bool, st_str_int, st_str_str, st_str_tuple, st_str_list, st_str_dict, st_tuple_bool, st_tuple_int, st_tuple_str, st_tuple_tuple, st_tuple_list, st_tuple_dict, st_list_bool, st_list_int, st_list_str, st_list_tuple, st_list_list, st_list_dict, st_dict_bool, st_dict_int, st_dict_str, st_dict_tuple, st_dict_list, st_dict_dict, tm, if_pos]
    have st3 : sAsg (xLst (xCons (xTup (xCons (xVar 2) (xCons (xVar 3) xNil))) (xCons (xTup (xCons (xVar 3) (xCons (xVar 2) xNil))) xNil))) (gNm 6) [some (.ref d), some (.lst ((a :: b :: c :: rest).map .int)), some (.int a), some (.int b), some (.int c), some (.ref h.length), none, none, none, none, none] (h ++ [.dK (rowsV (tri0 a b c))]) = some (.nx, [some (.ref d), some (.lst ((a :: b :: c :: rest).map .int)), some (.int a), some (.int b), some (.int c), some (.ref h.length), some (.lst (stepsV [(a, b), (b, a)])), none, none, none, none], h ++ [.dK (rowsV (tri0 a b c))]) := by
      simp only [ewd, stepsV]
    have it : iSeq (xSlL (xVar 1) (xPart (xC (.int 3))) xNoPart) [some (.ref d), some (.lst ((a :: b :: c :: rest).map .int)), some (.int a), some (.int b), some (.int c), some (.ref h.length), some (.lst (stepsV [(a, b), (b, a)])), none, none, none, none] (h ++ [.dK (rowsV (tri0 a b c))]) = some (.vals (rest.map .int), h ++ [.dK (rowsV (tri0 a b c))]) := by
      simp only [ewd, e2]
    rw [← hset] at eg
    have raw : g__law_full [.ref d, .lst ((a :: b :: c :: rest).map .int)] h = some (.ref h.length, (h.set d (.lst (ds'.map .int))) ++ [.dK (rowsV W)]) :=
      run_rt (b := b__law_full) ((seq_nx st1).trans ((seq_nx st2).trans ((seq_nx st3).trans ((seq_nx ((for_at it).trans eg)).trans (ret_at rfl)))))
    exact toldF_dK raw (get_end (by simp)) (Nat.le_refl _) (plain_rows W) (by simp) (set_plain (plain_ints _))
theorem map_snoc (f : Int → List Int → List Int) (W : WL) (p : Int × List Int) : mapRows f (W ++ [p]) = mapRows f W ++ [(p.1, f p.1 p.2)] := by simp [mapRows]
--@fresh _law_thinned
def B1__law_thinned : XS := (sPut (xVar 4) (xVar 5) (xLc (iSeq (xOp opIx (xVar 1) (xVar 5))) (gNm 6) (xB (xOp opGe (xOp opMod (xCall g__law_mixed (xCons (xOp opAdd (xVar 3) (xArgs fMin2 (xCons (xVar 5) (xCons (xVar 6) xNil)))) (xCons (xArgs fMax2 (xCons (xVar 5) (xCons (xVar 6) xNil))) xNil))) (xC (.int 8))) (xVar 2))) (xVar 6) [6]))
def b__law_thinned : XS := (sSeq (sAsg (xCall g__law_next (xCons (xVar 0) xNil)) (gNm 3))
    (sSeq (sAsg (xBox (xC (.dK []))) (gNm 4))
    (sSeq (sForK 1 (gNm 5) B1__law_thinned)
    (sRet (xVar 4)))))
def g__law_thinned : Fn := runDef 7 b__law_thinned
theorem d__law_thinned {x0 x1 x2 : MV} {h : MH} {R : MV → MH → Prop} (w : Wp (b__law_thinned [some x0, some x1, some x2, none, none, none, none] h) fun f _ h1 => kR f fun v => R v h1) : We (g__law_thinned [x0, x1, x2] h) R := we_def w

def keptB (n u v share : Int) : Bool := decide (share ≤ mixOf (n + (if v < u then v else u)) (if v > u then v else u) % 8)
theorem kept_sym (n u v share : Int) : keptB n u v share = keptB n v u share := by
  unfold keptB
  have e1 : (if v < u then v else u) = (if u < v then u else v) := by split <;> split <;> omega
  have e2 : (if v > u then v else u) = (if u > v then u else v) := by split <;> split <;> omega
  rw [e1, e2]
theorem thinned_at (h : MH) (d : Nat) (ds : List Int) (e : h[d]? = some (.lst (ds.map .int))) (hD : Drawn ds) (W : WL) (w : Web W) (hn : Names (keysOf' W)) (hl : W.length ≤ 200) (hr : ∀ u r, rowOf W u = some r → r.length ≤ 1000) (share : Int) :
    ∃ n, (toldF g__law_thinned) [.ref d, .dK (rowsV W), .int share] h = some (.dK (rowsV (mapRows (fun u r => r.filter fun v => keptB n u v share) W)), h.set d (.lst (ds.tail.map .int))) := by
  have hd : d < h.length := (List.getElem?_eq_some_iff.mp e).1
  obtain ⟨n0, n1⟩ := hD.head
  have en := next_at ds d h e
  generalize ds.headD 0 = n at n0 n1 en
  have hh2 : (h.set d (.lst (ds.tail.map .int))).length = h.length := by simp
  generalize h2e : h.set d (.lst (ds.tail.map .int)) = h2 at en hh2 ⊢
  refine ⟨n, ?_⟩
  generalize hF : (fun (u : Int) (r : List Int) => r.filter fun v => keptB n u v share) = F
  obtain ⟨s', h', eg, o5, o6, rfl, rfl⟩ := forGo_run (g := gNm 5) (b := B1__law_thinned)
    (fun i s h1 => ∃ o5 o6, s = [some (.ref d), some (.dK (rowsV W)), some (.int share), some (.int n), some (.ref h2.length), o5, o6] ∧ h1 = h2 ++ [.dK (rowsV (mapRows F (W.take i)))])
    ((keysOf' W).map .int) 0 [some (.ref d), some (.dK (rowsV W)), some (.int share), some (.int n), some (.ref h2.length), none, none] (h2 ++ [.dK []]) ⟨none, none, rfl, rfl⟩ (by
    rintro i x s h1 ex ⟨o5, o6, rfl, rfl⟩
    rw [Nat.zero_add]
    rw [List.getElem?_map] at ex
    cases ew : W[i]? with
    | none =>
      have : (keysOf' W)[i]? = none := by unfold keysOf'; rw [List.getElem?_map, ew]; rfl
      rw [this] at ex; cases ex
    | some p =>
      obtain ⟨u, r⟩ := p
      have ek : (keysOf' W)[i]? = some u := by unfold keysOf'; rw [List.getElem?_map, ew]; rfl
      rw [ek] at ex; cases ex
      have eu : rowOf W u = some r := rowOf_of_mem w.nd (List.mem_of_getElem? ew)
      have hu := hn.2 u (rowOf_mem eu)
      have hv : ∀ v ∈ r, 0 ≤ v ∧ v < 1000 := fun v hm => by
        obtain ⟨r', e', _⟩ := w.sym u v r eu hm
        exact hn.2 v (rowOf_mem e')
      have lc := lcGo_gen (g := gNm 6) (c := xB (xOp opGe (xOp opMod (xCall g__law_mixed (xCons (xOp opAdd (xVar 3) (xArgs fMin2 (xCons (xVar 5) (xCons (xVar 6) xNil)))) (xCons (xArgs fMax2 (xCons (xVar 5) (xCons (xVar 6) xNil))) xNil))) (xC (.int 8))) (xVar 2))) (e := xVar 6)
        (s := [some (.ref d), some (.dK (rowsV W)), some (.int share), some (.int n), some (.ref h2.length), some (.int u), none]) (h := h2 ++ [.dK (rowsV (mapRows F (W.take i)))]) MV.int (fun v => keptB n u v share) MV.int r [] (by have := hr u r eu; rw [List.length_nil]; unfold szLine; omega) (fun v hm => by
          have hv' := hv v hm
          refine ⟨[some (.ref d), some (.dK (rowsV W)), some (.int share), some (.int n), some (.ref h2.length), some (.int u), some (.int v)], rfl, ?_, fun _ => rfl⟩
          have hx : -4611686018427387904 < (if v > u then v else u) ∧ (if v > u then v else u) < 4611686018427387904 := by split <;> omega
          simp (discharger := first | exact hx.1 | exact hx.2 | omega) only [sSeq, sAsg, sIf, sRet, sRetN, sExpr, sNext, sPar, sPar3, sBk, sCt, sFor, sPut, gNm, gTp, gsCons, gsNil, xVar, xC, xOp, xUn, xCons, xNil, xArgs, xCall, xTup, xLst, xBox, boxM, xIf, xAnd, xOr, xNot, xB, xAndT, xOrT, xNotT, xAppend, xPop, xPopAt, xExtend, xExtendT, xSlL, xPart, xNoPart, iSeq, iRange1, iRange2, cYes, seqOf, listOf, isLstC, runDef, sBegin, List.map_cons, List.map_nil, List.length_cons, List.length_nil, List.getElem?_cons_zero, List.getElem?_cons_succ, List.getElem?_nil, List.set_cons_zero, List.set_cons_succ, List.cons_append, List.nil_append, List.append_nil, Nat.sub_self, Nat.zero_add, Nat.reduceAdd, Nat.reduceSub, Nat.add_one_sub_one, List.replicate_zero, List.replicate_succ, Option.map_some, if_true, if_false, decide_true, decide_false, Bool.not_true, Bool.not_false, Bool.true_or, Bool.false_or, Bool.or_true, Bool.or_false, Bool.true_and, Bool.false_and, Bool.and_true, Bool.and_false, beq_self_eq_true, opAdd, opSub, opNeg, opLt, opLe, opGt, opGe, fLen, fAbs, fMax2, fMin2, fIsi, tyN, fList, fTuple, fDictP, opCat, opCatT, lstC, fKeys, fKeysS, fSorted, xPairs, xDisp, xUpdate, sForK, gLp, fKeysT, opRevT, iEnumT, keyOf, keyV, opIsBl, opNotBl, dictK, st_NoneType_bool, st_NoneType_int, st_NoneType_str, st_NoneType_tuple, st_NoneType_list, st_NoneType_dict, st_bool_bool, st_bool_int, st_bool_str, st_bool_tuple, st_bool_list, st_bool_dict, st_int_bool, st_int_int, st_int_str, st_int_tuple, st_int_list, st_int_dict, st_str_bool, st_str_int, st_str_str, st_str_tuple, st_str_list, st_str_dict, st_tuple_bool, st_tuple_int, st_tuple_str, st_tuple_tuple, st_tuple_list, st_tuple_dict, st_list_bool, st_list_int, st_list_str, st_list_tuple, st_list_list, st_list_dict, st_dict_bool, st_dict_int, st_dict_str, st_dict_tuple, st_dict_list, st_dict_dict, mixed_at, mod_ok, keptB])
      rw [List.nil_append] at lc
      have lw : (mapRows F (W.take i)).length < szLine := by simp only [mapRows, List.length_map, List.length_take]; unfold szLine; omega
      have pw := put_rows (h := h2 ++ [.dK (rowsV (mapRows F (W.take i)))]) (m := h2.length) (u := u) (r := F u r) (get_last) lw
      have nk : u ∉ keysOf' (mapRows F (W.take i)) := by
        rw [keys_map]
        intro hm
        have nd : (keysOf' (W.take (i + 1))).Nodup := by
          have : keysOf' (W.take (i + 1)) = (keysOf' W).take (i + 1) := by unfold keysOf'; rw [List.map_take]
          rw [this]; exact w.nd.sublist (List.take_sublist _ _)
        rw [take_snoc ew] at nd
        have : keysOf' (W.take i ++ [(u, r)]) = keysOf' (W.take i) ++ [u] := by simp [keysOf']
        rw [this, List.nodup_append] at nd
        exact nd.2.2 u hm u (by simp) rfl
      rw [put_app nk, set_last] at pw
      have mk : mapRows F (W.take (i + 1)) = mapRows F (W.take i) ++ [(u, F u r)] := by rw [take_snoc ew, map_snoc]
      refine ⟨_, _, .nx, [some (.ref d), some (.dK (rowsV W)), some (.int share), some (.int n), some (.ref h2.length), some (.int u), o6], h2 ++ [.dK (rowsV (mapRows F (W.take (i + 1))))], rfl, ?_, .inl rfl, some (.int u), o6, rfl, rfl⟩
      rw [mk]
      have hFu : F u r = r.filter fun v => keptB n u v share := by rw [← hF]
      rw [hFu] at pw ⊢
      have it : iSeq (xOp opIx (xVar 1) (xVar 5)) [some (.ref d), some (.dK (rowsV W)), some (.int share), some (.int n), some (.ref h2.length), some (.int u), o6] (h2 ++ [.dK (rowsV (mapRows F (W.take i)))]) = some (.vals (r.map .int), h2 ++ [.dK (rowsV (mapRows F (W.take i)))]) := by
        simp only [ewd, ix_rowsV eu]
      have lc2 := lc_at (own := [6]) it lc
      simp only [B1__law_thinned, sPut, lc2, xVar, List.set_cons_succ, List.set_cons_zero, gNm, List.getElem?_cons_succ, List.getElem?_cons_zero, pw])
  have hlen : (rowsV W).map (fun kv => keyV kv.1) = (keysOf' W).map .int := keysV_rows W
  have eW : W.take (0 + ((keysOf' W).map MV.int).length) = W := by rw [Nat.zero_add, List.length_map, keys_len, List.take_length]
  rw [eW] at eg
  have st1 : sAsg (xCall g__law_next (xCons (xVar 0) xNil)) (gNm 3) [some (.ref d), some (.dK (rowsV W)), some (.int share), none, none, none, none] h = some (.nx, [some (.ref d), some (.dK (rowsV W)), some (.int share), some (.int n), none, none, none], h2) := by
    simp only [ewd, en]
  have st2 : sAsg (xBox (xC (.dK []))) (gNm 4) [some (.ref d), some (.dK (rowsV W)), some (.int share), some (.int n), none, none, none] h2 = some (.nx, [some (.ref d), some (.dK (rowsV W)), some (.int share), some (.int n), some (.ref h2.length), none, none], h2 ++ [.dK []]) := rfl
  have fk := forK_at (n := 1) (g := gNm 5) (b := B1__law_thinned) (s := [some (.ref d), some (.dK (rowsV W)), some (.int share), some (.int n), some (.ref h2.length), none, none]) (h := h2 ++ [.dK []]) (kvs := rowsV W) rfl
  rw [hlen] at fk
  have raw : g__law_thinned [.ref d, .dK (rowsV W), .int share] h = some (.ref h2.length, h2 ++ [.dK (rowsV (mapRows F W))]) :=
    run_rt (b := b__law_thinned) ((seq_nx st1).trans ((seq_nx st2).trans ((seq_nx (fk.trans eg)).trans (ret_at rfl))))
  exact toldF_dK raw get_last (by omega) (plain_rows _) hh2 (by rw [← h2e]; exact set_plain (plain_ints _))
--@fresh _law_begun
def B1__law_begun : XS := (sSeq (sAsg (xOp opMod (xCall g__law_mixed (xCons (xVar 2) (xCons (xOp opAdd (xVar 6) (xC (.int 1))) xNil))) (xArgs fMax2 (xCons (xC (.int 1)) (xCons (xArgs fLen (xCons (xOp opIx (xVar 1) (xVar 6)) xNil)) xNil)))) (gNm 7))
    (sPut (xVar 3) (xVar 6) (xArgs fTuple (xCons (xCat (xSlL (xOp opIx (xVar 1) (xVar 6)) (xPart (xVar 7)) xNoPart) (xSlL (xOp opIx (xVar 1) (xVar 6)) xNoPart (xPart (xVar 7)))) xNil))))
def b__law_begun : XS := (sSeq (sAsg (xCall g__law_next (xCons (xVar 0) xNil)) (gNm 2))
    (sSeq (sAsg (xBox (xC (.dK []))) (gNm 3))
    (sSeq (sAsg (xUn fKeys (xVar 1)) (gNm 4))
    (sSeq (sAsg (xOp opMod (xVar 2) (xArgs fMax2 (xCons (xC (.int 1)) (xCons (xArgs fLen (xCons (xVar 4) xNil)) xNil)))) (gNm 5))
    (sSeq (sFor (iSeq (xCat (xSlL (xVar 4) (xPart (xVar 5)) xNoPart) (xSlL (xVar 4) xNoPart (xPart (xVar 5))))) (gNm 6) B1__law_begun)
    (sRet (xVar 3)))))))
def g__law_begun : Fn := runDef 8 b__law_begun
theorem d__law_begun {x0 x1 : MV} {h : MH} {R : MV → MH → Prop} (w : Wp (b__law_begun [some x0, some x1, none, none, none, none, none, none] h) fun f _ h1 => kR f fun v => R v h1) : We (g__law_begun [x0, x1] h) R := we_def w

def rotR (n u : Int) (r : List Int) : List Int := r.drop (mixOf n (u + 1) % (if (r.length : Int) > 1 then (r.length : Int) else 1)).toNat ++ r.take (mixOf n (u + 1) % (if (r.length : Int) > 1 then (r.length : Int) else 1)).toNat
theorem rot_perm {α : Type} (k : Nat) (r : List α) : (r.drop k ++ r.take k).Perm r := by
  have := List.perm_append_comm (l₁ := r.drop k) (l₂ := r.take k)
  rwa [List.take_append_drop] at this
theorem begun_rot (h : MH) (d : Nat) (ds : List Int) (e : h[d]? = some (.lst (ds.map .int))) (hD : Drawn ds) (W : WL) (w : Web W) (hn : Names (keysOf' W)) (hl : W.length ≤ 200) (hr : ∀ u r, rowOf W u = some r → r.length ≤ 1000) (rows : MV) (hrow : ∀ h2 : MH, (∀ i c, i ≠ d → h[i]? = some c → h2[i]? = some c) → dictK h2 rows = some (rowsV W) ∧ ∀ u r, rowOf W u = some r → opIx h2 rows (.int u) = some (.lst (r.map .int))) :
    ∃ V, ((keysOf' V).Perm (keysOf' W) ∧ ∀ u r, rowOf W u = some r → ∃ k, rowOf V u = some (r.drop k ++ r.take k)) ∧ Web V ∧ Names (keysOf' V) ∧ V.length = W.length ∧ (toldF g__law_begun) [.ref d, rows] h = some (.dK (websV V), h.set d (.lst (ds.tail.map .int))) := by
  have hd : d < h.length := (List.getElem?_eq_some_iff.mp e).1
  obtain ⟨n0, n1⟩ := hD.head
  have en := next_at ds d h e
  generalize ds.headD 0 = n at n0 n1 en
  have hh2 : (h.set d (.lst (ds.tail.map .int))).length = h.length := by simp
  have keep : ∀ (t : MH), ∀ i c, i ≠ d → h[i]? = some c → ((h.set d (.lst (ds.tail.map .int))) ++ t)[i]? = some c := fun t i c ne ec => get_app (by rw [List.getElem?_set_ne (Ne.symm ne)]; exact ec)
  have rk := fun t => hrow _ (keep t)
  generalize h2e : h.set d (.lst (ds.tail.map .int)) = h2 at en hh2 rk ⊢
  obtain ⟨tn, htn, htl⟩ : ∃ tn : Nat, n % (if ((W.length : Nat) : Int) > 1 then ((W.length : Nat) : Int) else 1) = (tn : Int) ∧ True := by
    have : 0 ≤ n % (if ((W.length : Nat) : Int) > 1 then ((W.length : Nat) : Int) else 1) := Int.emod_nonneg _ (by split <;> omega)
    obtain ⟨k, hk⟩ := Int.eq_ofNat_of_zero_le this
    exact ⟨k, hk, True.intro⟩
  have hp := rot_perm tn W
  have lV : (W.drop tn ++ W.take tn).length = W.length := hp.length_eq
  have kV : keysOf' (W.drop tn ++ W.take tn) = (keysOf' W).drop tn ++ (keysOf' W).take tn := by simp [keysOf', List.map_drop, List.map_take]
  have ndV : (keysOf' (W.drop tn ++ W.take tn)).Nodup := by rw [kV]; exact (rot_perm tn (keysOf' W)).nodup_iff.mpr w.nd
  generalize hVe : W.drop tn ++ W.take tn = V0 at hp lV kV ndV
  obtain ⟨s', h', eg, o6, o7, rfl, rfl⟩ := forGo_run (g := gNm 6) (b := B1__law_begun)
    (fun i s h1 => ∃ o6 o7, s = [some (.ref d), some rows, some (.int n), some (.ref h2.length), some (.lst ((keysOf' W).map .int)), some (.int tn), o6, o7] ∧ h1 = h2 ++ [.dK (websV (mapRows (rotR n) (V0.take i)))])
    ((keysOf' V0).map .int) 0 [some (.ref d), some rows, some (.int n), some (.ref h2.length), some (.lst ((keysOf' W).map .int)), some (.int tn), none, none] (h2 ++ [.dK []]) ⟨none, none, rfl, rfl⟩ (by
    rintro i x s h1 ex ⟨o6, o7, rfl, rfl⟩
    rw [Nat.zero_add]
    rw [List.getElem?_map] at ex
    cases ew : V0[i]? with
    | none =>
      have : (keysOf' V0)[i]? = none := by unfold keysOf'; rw [List.getElem?_map, ew]; rfl
      rw [this] at ex; cases ex
    | some p =>
      obtain ⟨u, r⟩ := p
      have ek : (keysOf' V0)[i]? = some u := by unfold keysOf'; rw [List.getElem?_map, ew]; rfl
      rw [ek] at ex; cases ex
      have eu : rowOf W u = some r := rowOf_of_mem w.nd (hp.mem_iff.mp (List.mem_of_getElem? ew))
      have hu := hn.2 u (rowOf_mem eu)
      have lr := hr u r eu
      have ix := (rk [.dK (websV (mapRows (rotR n) (V0.take i)))]).2 u r eu
      have mx : 0 < (if ((r.length : Nat) : Int) > 1 then ((r.length : Nat) : Int) else 1) := by split <;> omega
      have at0 : 0 ≤ mixOf n (u + 1) % (if ((r.length : Nat) : Int) > 1 then ((r.length : Nat) : Int) else 1) := Int.emod_nonneg _ (by omega)
      have c1 := cut_from (xs := r.map MV.int) at0
      have c2 := cut_to (xs := r.map MV.int) at0
      have zl : ((r.map MV.int).drop (mixOf n (u + 1) % (if ((r.length : Nat) : Int) > 1 then ((r.length : Nat) : Int) else 1)).toNat).length + ((r.map MV.int).take (mixOf n (u + 1) % (if ((r.length : Nat) : Int) > 1 then ((r.length : Nat) : Int) else 1)).toNat).length ≤ szLine := by
        rw [List.length_drop, List.length_take, List.length_map]; unfold szLine; omega
      have er : (r.map MV.int).drop (mixOf n (u + 1) % (if ((r.length : Nat) : Int) > 1 then ((r.length : Nat) : Int) else 1)).toNat ++ (r.map MV.int).take (mixOf n (u + 1) % (if ((r.length : Nat) : Int) > 1 then ((r.length : Nat) : Int) else 1)).toNat = (rotR n u r).map MV.int := by
        unfold rotR
        rw [List.map_append, List.map_drop, List.map_take]
      have st1 : sAsg (xOp opMod (xCall g__law_mixed (xCons (xVar 2) (xCons (xOp opAdd (xVar 6) (xC (.int 1))) xNil))) (xArgs fMax2 (xCons (xC (.int 1)) (xCons (xArgs fLen (xCons (xOp opIx (xVar 1) (xVar 6)) xNil)) xNil)))) (gNm 7) [some (.ref d), some rows, some (.int n), some (.ref h2.length), some (.lst ((keysOf' W).map .int)), some (.int tn), some (.int u), o7] (h2 ++ [.dK (websV (mapRows (rotR n) (V0.take i)))])
          = some (.nx, [some (.ref d), some rows, some (.int n), some (.ref h2.length), some (.lst ((keysOf' W).map .int)), some (.int tn), some (.int u), some (.int (mixOf n (u + 1) % (if ((r.length : Nat) : Int) > 1 then ((r.length : Nat) : Int) else 1)))], h2 ++ [.dK (websV (mapRows (rotR n) (V0.take i)))]) := by
        simp (discharger := first | exact mx | omega) only [sSeq, sAsg, sIf, sRet, sRetN, sExpr, sNext, sPar, sPar3, sBk, sCt, sFor, sPut, gNm, gTp, gsCons, gsNil, xVar, xC, xOp, xUn, xCons, xNil, xArgs, xCall, xTup, xLst, xBox, boxM, xIf, xAnd, xOr, xNot, xB, xAndT, xOrT, xNotT, xAppend, xPop, xPopAt, xExtend, xExtendT, xSlL, xPart, xNoPart, iSeq, iRange1, iRange2, cYes, seqOf, listOf, isLstC, runDef, sBegin, List.map_cons, List.map_nil, List.length_cons, List.length_nil, List.getElem?_cons_zero, List.getElem?_cons_succ, List.getElem?_nil, List.set_cons_zero, List.set_cons_succ, List.cons_append, List.nil_append, List.append_nil, Nat.sub_self, Nat.zero_add, Nat.reduceAdd, Nat.reduceSub, Nat.add_one_sub_one, List.replicate_zero, List.replicate_succ, Option.map_some, if_true, if_false, decide_true, decide_false, Bool.not_true, Bool.not_false, Bool.true_or, Bool.false_or, Bool.or_true, Bool.or_false, Bool.true_and, Bool.false_and, Bool.and_true, Bool.and_false, beq_self_eq_true, opAdd, opSub, opNeg, opLt, opLe, opGt, opGe, fLen, fAbs, fMax2, fMin2, fIsi, tyN, fList, fTuple, fDictP, opCat, opCatT, lstC, fKeys, fKeysS, fSorted, xPairs, xDisp, xUpdate, sForK, gLp, fKeysT, opRevT, iEnumT, keyOf, keyV, opIsBl, opNotBl, dictK, st_NoneType_bool, st_NoneType_int, st_NoneType_str, st_NoneType_tuple, st_NoneType_list, st_NoneType_dict, st_bool_bool, st_bool_int, st_bool_str, st_bool_tuple, st_bool_list, st_bool_dict, st_int_bool, st_int_int, st_int_str, st_int_tuple, st_int_list, st_int_dict, st_str_bool, st_str_int, st_str_str, st_str_tuple, st_str_list, st_str_dict, st_tuple_bool, st_tuple_int, st_tuple_str, st_tuple_tuple, st_tuple_list, st_tuple_dict, st_list_bool, st_list_int, st_list_str, st_list_tuple, st_list_list, st_list_dict, st_dict_bool, st_dict_int, st_dict_str, st_dict_tuple, st_dict_list, st_dict_dict, mixed_at, ix, List.length_map, mod_ok]
      have nk : u ∉ keysOf' (mapRows (rotR n) (V0.take i)) := by
        rw [keys_map]
        intro hm
        have nd : (keysOf' (V0.take (i + 1))).Nodup := by
          have : keysOf' (V0.take (i + 1)) = (keysOf' V0).take (i + 1) := by unfold keysOf'; rw [List.map_take]
          rw [this]; exact ndV.sublist (List.take_sublist _ _)
        rw [take_snoc ew] at nd
        have : keysOf' (V0.take i ++ [(u, r)]) = keysOf' (V0.take i) ++ [u] := by simp [keysOf']
        rw [this, List.nodup_append] at nd
        exact nd.2.2 u hm u (by simp) rfl
      have lw : (mapRows (rotR n) (V0.take i)).length < szLine := by simp only [mapRows, List.length_map, List.length_take]; unfold szLine; omega
      have pw := put_webs (h := h2 ++ [.dK (websV (mapRows (rotR n) (V0.take i)))]) (m := h2.length) (u := u) (r := rotR n u r) get_last lw
      rw [put_app nk, set_last, ← er] at pw
      have mk : mapRows (rotR n) (V0.take (i + 1)) = mapRows (rotR n) (V0.take i) ++ [(u, rotR n u r)] := by rw [take_snoc ew, map_snoc]
      refine ⟨_, _, .nx, [some (.ref d), some rows, some (.int n), some (.ref h2.length), some (.lst ((keysOf' W).map .int)), some (.int tn), some (.int u), some (.int (mixOf n (u + 1) % (if ((r.length : Nat) : Int) > 1 then ((r.length : Nat) : Int) else 1)))], h2 ++ [.dK (websV (mapRows (rotR n) (V0.take (i + 1))))], rfl, (seq_nx st1).trans ?_, .inl rfl, some (.int u), _, rfl, rfl⟩
      rw [mk]
      simp only [ewd, ix, c1, c2, zl, if_true, pw])
  have eW : V0.take (0 + ((keysOf' V0).map MV.int).length) = V0 := by rw [Nat.zero_add, List.length_map, keys_len, List.take_length]
  rw [eW] at eg
  refine ⟨mapRows (rotR n) V0, ⟨by rw [keys_map, kV]; exact rot_perm _ _, fun u r e => ?_⟩, w.perm (rotR n) hp (fun u r => rot_perm _ r), ?_, by simp [mapRows, lV], ?_⟩
  · refine ⟨(mixOf n (u + 1) % (if (r.length : Int) > 1 then (r.length : Int) else 1)).toNat, ?_⟩
    rw [rowOf_map, rowOf_of_mem ndV (hp.mem_iff.mpr (mem_of_rowOf e)), Option.map_some]
    rfl
  · rw [keys_map]
    exact ⟨ndV, fun u hm => hn.2 u (by rw [kV] at hm; exact (rot_perm tn (keysOf' W)).mem_iff.mp hm)⟩
  · have kl : (keysOf' W).length = W.length := keys_len W
    have mx : 0 < (if ((W.length : Nat) : Int) > 1 then ((W.length : Nat) : Int) else 1) := by split <;> omega
    have st1 : sAsg (xCall g__law_next (xCons (xVar 0) xNil)) (gNm 2) [some (.ref d), some rows, none, none, none, none, none, none] h = some (.nx, [some (.ref d), some rows, some (.int n), none, none, none, none, none], h2) := by
      simp only [ewd, en]
    have st2 : sAsg (xBox (xC (.dK []))) (gNm 3) [some (.ref d), some rows, some (.int n), none, none, none, none, none] h2 = some (.nx, [some (.ref d), some rows, some (.int n), some (.ref h2.length), none, none, none, none], h2 ++ [.dK []]) := rfl
    have fk : fKeys (h2 ++ [.dK []]) rows = some (.lst ((keysOf' W).map .int)) := by
      unfold fKeys
      rw [(rk [.dK []]).1, Option.map_some, keysV_rows]
    have st3 : sAsg (xUn fKeys (xVar 1)) (gNm 4) [some (.ref d), some rows, some (.int n), some (.ref h2.length), none, none, none, none] (h2 ++ [.dK []]) = some (.nx, [some (.ref d), some rows, some (.int n), some (.ref h2.length), some (.lst ((keysOf' W).map .int)), none, none, none], h2 ++ [.dK []]) := set_at (un_at rfl fk)
    have st4 : sAsg (xOp opMod (xVar 2) (xArgs fMax2 (xCons (xC (.int 1)) (xCons (xArgs fLen (xCons (xVar 4) xNil)) xNil)))) (gNm 5) [some (.ref d), some rows, some (.int n), some (.ref h2.length), some (.lst ((keysOf' W).map .int)), none, none, none] (h2 ++ [.dK []]) = some (.nx, [some (.ref d), some rows, some (.int n), some (.ref h2.length), some (.lst ((keysOf' W).map .int)), some (.int tn), none, none], h2 ++ [.dK []]) := by
      simp (discharger := first | exact mx | omega) only [sSeq, sAsg, sIf, sRet, sRetN, sExpr, sNext, sPar, sPar3, sBk, sCt, sFor, sPut, gNm, gTp, gsCons, gsNil, xVar, xC, xOp, xUn, xCons, xNil, xArgs, xCall, xTup, xLst, xBox, boxM, xIf, xAnd, xOr, xNot, xB, xAndT, xOrT, xNotT, xAppend, xPop, xPopAt, xExtend, xExtendT, xSlL, xPart, xNoPart, iSeq, iRange1, iRange2, cYes, seqOf, listOf, isLstC, runDef, sBegin, List.map_cons, List.map_nil, List.length_cons, List.length_nil, List.getElem?_cons_zero, List.getElem?_cons_succ, List.getElem?_nil, List.set_cons_zero, List.set_cons_succ, List.cons_append, List.nil_append, List.append_nil, Nat.sub_self, Nat.zero_add, Nat.reduceAdd, Nat.reduceSub, Nat.add_one_sub_one, List.replicate_zero, List.replicate_succ, Option.map_some, if_true, if_false, decide_true, decide_false, Bool.not_true, Bool.not_false, Bool.true_or, Bool.false_or, Bool.or_true, Bool.or_false, Bool.true_and, Bool.false_and, Bool.and_true, Bool.and_false, beq_self_eq_true, opAdd, opSub, opNeg, opLt, opLe, opGt, opGe, fLen, fAbs, fMax2, fMin2, fIsi, tyN, fList, fTuple, fDictP, opCat, opCatT, lstC, fKeys, fKeysS, fSorted, xPairs, xDisp, xUpdate, sForK, gLp, fKeysT, opRevT, iEnumT, keyOf, keyV, opIsBl, opNotBl, dictK, st_NoneType_bool, st_NoneType_int, st_NoneType_str, st_NoneType_tuple, st_NoneType_list, st_NoneType_dict, st_bool_bool, st_bool_int, st_bool_str, st_bool_tuple, st_bool_list, st_bool_dict, st_int_bool, st_int_int, st_int_str, st_int_tuple, st_int_list, st_int_dict, st_str_bool, st_str_int, st_str_str, st_str_tuple, st_str_list, st_str_dict, st_tuple_bool, st_tuple_int, st_tuple_str, st_tuple_tuple, st_tuple_list, st_tuple_dict, st_list_bool, st_list_int, st_list_str, st_list_tuple, st_list_list, st_list_dict, st_dict_bool, st_dict_int, st_dict_str, st_dict_tuple, st_dict_list, st_dict_dict, List.length_map, kl, mod_ok, htn]
    have c1 := cut_from (xs := (keysOf' W).map MV.int) (i := (tn : Int)) (by omega)
    have c2 := cut_to (xs := (keysOf' W).map MV.int) (i := (tn : Int)) (by omega)
    have tt : ((tn : Nat) : Int).toNat = tn := by omega
    rw [tt] at c1 c2
    have zl : (((keysOf' W).map MV.int).drop tn).length + (((keysOf' W).map MV.int).take tn).length ≤ szLine := by
      rw [List.length_drop, List.length_take, List.length_map, kl]; unfold szLine; omega
    have er : ((keysOf' W).map MV.int).drop tn ++ ((keysOf' W).map MV.int).take tn = (keysOf' V0).map .int := by rw [kV, List.map_append, List.map_drop, List.map_take]
    have it : iSeq (xCat (xSlL (xVar 4) (xPart (xVar 5)) xNoPart) (xSlL (xVar 4) xNoPart (xPart (xVar 5)))) [some (.ref d), some rows, some (.int n), some (.ref h2.length), some (.lst ((keysOf' W).map .int)), some (.int tn), none, none] (h2 ++ [.dK []]) = some (.vals ((keysOf' V0).map .int), h2 ++ [.dK []]) := by
      simp only [ewd, c1, c2, zl, if_true, er]
    have raw : g__law_begun [.ref d, rows] h = some (.ref h2.length, h2 ++ [.dK (websV (mapRows (rotR n) V0))]) :=
      run_rt (b := b__law_begun) ((seq_nx st1).trans ((seq_nx st2).trans ((seq_nx st3).trans ((seq_nx st4).trans ((seq_nx ((for_at it).trans eg)).trans (ret_at rfl))))))
    exact toldF_dK raw get_last (by omega) (plain_webs _) hh2 (by rw [← h2e]; exact set_plain (plain_ints _))
def B2__law_flat : XS := (sPut (xVar 5) (xVar 7) (xLst xNil))
def B1__law_flat : XS := (sIf (xB (xOp opLt (xArgs fLen (xCons (xVar 6) xNil)) (xC (.int 3)))) (sFor (iSeq (xVar 6)) (gNm 7) B2__law_flat) (sSeq (sAsg (xCall (toldF Ew.g__law_full) (xCons (xVar 0) (xCons (xVar 6) xNil))) (gNm 8))
    (sExpr (xUpdate (xVar 5) (xCall (toldF Ew.g__law_thinned) (xCons (xVar 0) (xCons (xVar 8) (xCons (xOp opIx (xLst (xCons (xC (.int 0)) (xCons (xC (.int 0)) (xCons (xC (.int 1)) (xCons (xC (.int 2)) (xCons (xC (.int 4)) (xCons (xC (.int 6)) (xCons (xC (.int 7)) (xCons (xC (.int 8)) xNil))))))))) (xOp opMod (xOp opDiv (xVar 2) (xC (.int 1000000))) (xC (.int 8)))) xNil))))))))
def b__law_flat : XS := (sSeq (sAsg (xCall g__law_next (xCons (xVar 0) xNil)) (gNm 2))
    (sSeq (sAsg (xCall g__law_names (xCons (xVar 0) (xCons (xOp opMod (xVar 2) (xOp opAdd (xVar 1) (xC (.int 1)))) xNil))) (gNm 3))
    (sSeq (sAsg (xArgs fLen (xCons (xVar 3) xNil)) (gNm 4))
    (sSeq (sIf (xB (xOp opEq (xOp opMod (xOp opDiv (xVar 2) (xC (.int 1000))) (xC (.int 4))) (xC (.int 0)))) (sAsg (xOp opMod (xOp opDiv (xVar 2) (xC (.int 4000))) (xOp opAdd (xArgs fLen (xCons (xVar 3) xNil)) (xC (.int 1)))) (gNm 4)) sNext)
    (sSeq (sAsg (xBox (xC (.dK []))) (gNm 5))
    (sSeq (sFor (iSeq (xLst (xCons (xSlL (xVar 3) xNoPart (xPart (xVar 4))) (xCons (xSlL (xVar 3) (xPart (xVar 4)) xNoPart) xNil)))) (gNm 6) B1__law_flat)
    (sRet (xCall (toldF Ew.g__law_begun) (xCons (xVar 0) (xCons (xVar 5) xNil))))))))))
def g__law_flat : Fn := runDef 9 b__law_flat
theorem d__law_flat {x0 x1 : MV} {h : MH} {R : MV → MH → Prop} (w : Wp (b__law_flat [some x0, some x1, none, none, none, none, none, none, none] h) fun f _ h1 => kR f fun v => R v h1) : We (g__law_flat [x0, x1] h) R := we_def w

theorem flat_part (h : MH) (d : Nat) (hd : d < h.length) (ds : List Int) (hD : Drawn ds) (W : WL) (w : Web W) (n : Int) (n0 : 0 ≤ n) (part : List Int) (hp : Names part) (hl : part.length ≤ 200) (hW : W.length ≤ 200) (hdis : ∀ u ∈ part, u ∉ keysOf' W) (o1 o3 o4 o7 o8 : Option MV) :
    ∃ V ds' o7' o8', Web (W ++ V) ∧ keysOf' V = part ∧ Drawn ds' ∧ (Web V ∧ Made V) ∧ B1__law_flat [some (.ref d), o1, some (.int n), o3, o4, some (.ref h.length), some (.lst (part.map .int)), o7, o8] ((h.set d (.lst (ds.map .int))) ++ [.dK (rowsV W)])
      = some (.nx, [some (.ref d), o1, some (.int n), o3, o4, some (.ref h.length), some (.lst (part.map .int)), o7', o8'], (h.set d (.lst (ds'.map .int))) ++ [.dK (rowsV (W ++ V))]) := by
  by_cases q : part.length < 3
  · obtain ⟨s', h', eg, o7', rfl, rfl⟩ := forGo_run (g := gNm 7) (b := B2__law_flat)
      (fun i s h1 => ∃ o7', s = [some (.ref d), o1, some (.int n), o3, o4, some (.ref h.length), some (.lst (part.map .int)), o7', o8] ∧ h1 = (h.set d (.lst (ds.map .int))) ++ [.dK (rowsV (W ++ (part.take i).map fun p => (p, [])))])
      (part.map .int) 0 [some (.ref d), o1, some (.int n), o3, o4, some (.ref h.length), some (.lst (part.map .int)), o7, o8] ((h.set d (.lst (ds.map .int))) ++ [.dK (rowsV W)]) ⟨o7, rfl, by simp⟩ (by
      rintro i x s h1 ex ⟨o7', rfl, rfl⟩
      rw [Nat.zero_add]
      rw [List.getElem?_map] at ex
      cases ep : part[i]? with
      | none => rw [ep] at ex; cases ex
      | some u =>
        rw [ep] at ex; cases ex
        have nk : u ∉ keysOf' (W ++ (part.take i).map fun p => (p, [])) := by
          rw [keys_app]
          intro hm
          rcases List.mem_append.mp hm with z | z
          · exact hdis u (List.mem_of_getElem? ep) z
          · have z' : u ∈ part.take i := by simpa [keysOf', Function.comp_def] using z
            have nd : (part.take (i + 1)).Nodup := hp.1.sublist (List.take_sublist _ _)
            rw [take_snoc ep, List.nodup_append] at nd
            exact nd.2.2 u z' u (by simp) rfl
        have lw : (W ++ (part.take i).map fun p => (p, ([] : List Int))).length < szLine := by rw [List.length_append, List.length_map, List.length_take]; unfold szLine; omega
        have pw := put_rows (h := (h.set d (.lst (ds.map .int))) ++ [.dK (rowsV (W ++ (part.take i).map fun p => (p, [])))]) (m := h.length) (u := u) (r := []) (get_end (by simp)) lw
        rw [put_app nk, set_end (by simp), List.append_assoc] at pw
        have mk : (part.take i).map (fun p => (p, ([] : List Int))) ++ [(u, [])] = (part.take (i + 1)).map fun p => (p, []) := by rw [take_snoc ep, List.map_append]; rfl
        rw [mk] at pw
        simp only [List.map_nil] at pw
        exact ⟨_, _, .nx, _, _, rfl, by simp only [ewd, B2__law_flat, pw], .inl rfl, some (.int u), rfl, rfl⟩)
    have eW : part.take (0 + (part.map MV.int).length) = part := by rw [Nat.zero_add, List.length_map, List.take_length]
    rw [eW] at eg
    refine ⟨part.map fun p => (p, []), ds, o7', o8, w.join (web_empties hp.1) (fun u hu hm => hdis u (by simpa [keysOf', Function.comp_def] using hm) hu), by simp [keysOf', Function.comp_def], hD, ⟨web_empties hp.1, .bare _ hp.1⟩, ?_⟩
    have ct : xB (xOp opLt (xArgs fLen (xCons (xVar 6) xNil)) (xC (.int 3))) [some (.ref d), o1, some (.int n), o3, o4, some (.ref h.length), some (.lst (part.map .int)), o7, o8] ((h.set d (.lst (ds.map .int))) ++ [.dK (rowsV W)]) = some (true, (h.set d (.lst (ds.map .int))) ++ [.dK (rowsV W)]) := by
      have : decide (((part.length : Nat) : Int) < 3) = true := decide_eq_true (by omega)
      simp only [ewd, List.length_map, this]
    have it : iSeq (xVar 6) [some (.ref d), o1, some (.int n), o3, o4, some (.ref h.length), some (.lst (part.map .int)), o7, o8] ((h.set d (.lst (ds.map .int))) ++ [.dK (rowsV W)]) = some (.vals (part.map .int), (h.set d (.lst (ds.map .int))) ++ [.dK (rowsV W)]) := by simp only [ewd]
    exact (if_t ct).trans ((for_at it).trans eg)
  · obtain ⟨V, ds1, T, G, K, D1, ef⟩ := full_grw ((h.set d (.lst (ds.map .int))) ++ [.dK (rowsV W)]) d ds (get_app (get_set hd)) hD part hp (by omega) hl
    rw [set_app hd] at ef
    have c8 : ∃ y : Int, atM [.int 0, .int 0, .int 1, .int 2, .int 4, .int 6, .int 7, .int 8] (n / 1000000 % 8) = some (.int y) := by
      have h4 : n / 1000000 % 8 = 0 ∨ n / 1000000 % 8 = 1 ∨ n / 1000000 % 8 = 2 ∨ n / 1000000 % 8 = 3 ∨ n / 1000000 % 8 = 4 ∨ n / 1000000 % 8 = 5 ∨ n / 1000000 % 8 = 6 ∨ n / 1000000 % 8 = 7 := by omega
      rcases h4 with q | q | q | q | q | q | q | q <;> rw [q] <;> exact ⟨_, rfl⟩
    obtain ⟨y, ey⟩ := c8
    have NV : Names (keysOf' V) := by rw [K]; exact hp
    have lV : V.length = part.length := by rw [← keys_len, K]
    obtain ⟨m, et⟩ := thinned_at ((h.set d (.lst (ds1.map .int))) ++ [.dK (rowsV W)]) d ds1 (get_app (get_set hd)) D1 V T.web NV (by omega) (fun u r e => T.web.len NV.2 e) y
    rw [set_app hd] at et
    generalize hVe : mapRows (fun u r => r.filter fun v => keptB m u v y) V = V2 at et
    have w2 : Web V2 := by rw [← hVe]; exact T.web.thin (fun u v => keptB m u v y) (fun u v => kept_sym m u v y)
    have K2 : keysOf' V2 = part := by rw [← hVe, keys_map, K]
    have l2 : V2.length = part.length := by rw [← keys_len, K2]
    have mg := merge_rows V2 W w2.nd (by rw [K2]; exact hdis)
    have zl : (rowsV W).length + (rowsV V2).length ≤ szLine := by simp only [rowsV, List.length_map]; unfold szLine; omega
    refine ⟨V2, ds1.tail, o7, some (.dK (rowsV V)), w.join w2 (fun u hu hm => hdis u (by rw [← K2]; exact hm) hu), K2, D1.tail, ⟨w2, hVe ▸ .thin V (fun u v => keptB m u v y) T G (fun z => by rw [z] at lV; simp at lV; omega) (fun u v => kept_sym m u v y)⟩, ?_⟩
    have ct : xB (xOp opLt (xArgs fLen (xCons (xVar 6) xNil)) (xC (.int 3))) [some (.ref d), o1, some (.int n), o3, o4, some (.ref h.length), some (.lst (part.map .int)), o7, o8] ((h.set d (.lst (ds.map .int))) ++ [.dK (rowsV W)]) = some (false, (h.set d (.lst (ds.map .int))) ++ [.dK (rowsV W)]) := by
      have : decide (((part.length : Nat) : Int) < 3) = false := decide_eq_false (by omega)
      simp only [ewd, List.length_map, this]
    have st1 : sAsg (xCall (toldF g__law_full) (xCons (xVar 0) (xCons (xVar 6) xNil))) (gNm 8) [some (.ref d), o1, some (.int n), o3, o4, some (.ref h.length), some (.lst (part.map .int)), o7, o8] ((h.set d (.lst (ds.map .int))) ++ [.dK (rowsV W)]) = some (.nx, [some (.ref d), o1, some (.int n), o3, o4, some (.ref h.length), some (.lst (part.map .int)), o7, some (.dK (rowsV V))], (h.set d (.lst (ds1.map .int))) ++ [.dK (rowsV W)]) := by
      simp only [ewd, ef]
    have g0 : ∀ U : List Int, ((h.set d (.lst (U.map .int))) ++ [.dK (rowsV W)])[h.length]? = some (.dK (rowsV W)) := fun U => get_end (by simp)
    have ar : xCons (xVar 0) (xCons (xVar 8) (xCons (xOp opIx (xLst (xCons (xC (.int 0)) (xCons (xC (.int 0)) (xCons (xC (.int 1)) (xCons (xC (.int 2)) (xCons (xC (.int 4)) (xCons (xC (.int 6)) (xCons (xC (.int 7)) (xCons (xC (.int 8)) xNil))))))))) (xOp opMod (xOp opDiv (xVar 2) (xC (.int 1000000))) (xC (.int 8)))) xNil)) [some (.ref d), o1, some (.int n), o3, o4, some (.ref h.length), some (.lst (part.map .int)), o7, some (.dK (rowsV V))] ((h.set d (.lst (ds1.map .int))) ++ [.dK (rowsV W)]) = some ([.ref d, .dK (rowsV V), .int y], (h.set d (.lst (ds1.map .int))) ++ [.dK (rowsV W)]) := by
      simp (discharger := omega) only [sSeq, sAsg, sIf, sRet, sRetN, sExpr, sNext, sPar, sPar3, sBk, sCt, sFor, sPut, gNm, gTp, gsCons, gsNil, xVar, xC, xOp, xUn, xCons, xNil, xArgs, xCall, xTup, xLst, xBox, boxM, xIf, xAnd, xOr, xNot, xB, xAndT, xOrT, xNotT, xAppend, xPop, xPopAt, xExtend, xExtendT, xSlL, xPart, xNoPart, iSeq, iRange1, iRange2, cYes, seqOf, listOf, isLstC, runDef, sBegin, List.map_cons, List.map_nil, List.length_cons, List.length_nil, List.getElem?_cons_zero, List.getElem?_cons_succ, List.getElem?_nil, List.set_cons_zero, List.set_cons_succ, List.cons_append, List.nil_append, List.append_nil, Nat.sub_self, Nat.zero_add, Nat.reduceAdd, Nat.reduceSub, Nat.add_one_sub_one, List.replicate_zero, List.replicate_succ, Option.map_some, if_true, if_false, decide_true, decide_false, Bool.not_true, Bool.not_false, Bool.true_or, Bool.false_or, Bool.or_true, Bool.or_false, Bool.true_and, Bool.false_and, Bool.and_true, Bool.and_false, beq_self_eq_true, opAdd, opSub, opNeg, opLt, opLe, opGt, opGe, fLen, fAbs, fMax2, fMin2, fIsi, tyN, fList, fTuple, fDictP, opCat, opCatT, lstC, fKeys, fKeysS, fSorted, xPairs, xDisp, xUpdate, sForK, gLp, fKeysT, opRevT, iEnumT, keyOf, keyV, opIsBl, opNotBl, dictK, st_NoneType_bool, st_NoneType_int, st_NoneType_str, st_NoneType_tuple, st_NoneType_list, st_NoneType_dict, st_bool_bool, st_bool_int, st_bool_str, st_bool_tuple, st_bool_list, st_bool_dict, st_int_bool, st_int_int, st_int_str, st_int_tuple, st_int_list, st_int_dict, st_str_bool, st_str_int, st_str_str, st_str_tuple, st_str_list, st_str_dict, st_tuple_bool, st_tuple_int, st_tuple_str, st_tuple_tuple, st_tuple_list, st_tuple_dict, st_list_bool, st_list_int, st_list_str, st_list_tuple, st_list_list, st_list_dict, st_dict_bool, st_dict_int, st_dict_str, st_dict_tuple, st_dict_list, st_dict_dict, div_ok, mod_ok, ix_l, ey]
    refine (if_f ct).trans ((seq_nx st1).trans ?_)
    simp only [sExpr, xUpdate, xCall, ar, et, xVar, List.getElem?_cons_succ, List.getElem?_cons_zero, g0, zl, if_true, mg, set_end (show (h.set d (.lst (ds1.tail.map .int))).length = h.length by simp)]
theorem flat_made (h : MH) (d : Nat) (ds : List Int) (e : h[d]? = some (.lst (ds.map .int))) (hD : Drawn ds) (most : Int) (m0 : 0 ≤ most) (m1 : most ≤ 200) :
    ∃ V ds', Web V ∧ Names (keysOf' V) ∧ (V.length : Int) ≤ most ∧ Drawn ds' ∧ Made V ∧ (toldV g__law_flat) [.ref d, .int most] h = some (.dK (websV V), h.set d (.lst (ds'.map .int))) := by
  have hd : d < h.length := (List.getElem?_eq_some_iff.mp e).1
  obtain ⟨n0, n1⟩ := hD.head
  have en := next_at ds d h e
  generalize ds.headD 0 = n at n0 n1 en
  have D1 := hD.tail
  generalize ds.tail = ds1 at D1 en
  obtain ⟨mn, hmn, hml⟩ : ∃ mn : Nat, n % (most + 1) = (mn : Int) ∧ (mn : Int) ≤ most := by
    have a1 := Int.emod_nonneg n (show most + 1 ≠ 0 by omega)
    have a2 := Int.emod_lt_of_pos n (show 0 < most + 1 by omega)
    obtain ⟨k, hk⟩ := Int.eq_ofNat_of_zero_le a1
    exact ⟨k, hk, by omega⟩
  obtain ⟨ns, hns, lns, ens⟩ := names_at ds1 d (h.set d (.lst (ds1.map .int))) (get_set hd) D1 mn (by omega)
  rw [List.set_set] at ens
  have D2 := D1.tail
  generalize ds1.tail = ds2 at D2 ens
  -- where it is cut
  obtain ⟨ct, hct⟩ : ∃ ct : Nat, (if n / 1000 % 4 = 0 then n / 4000 % ((ns.length : Int) + 1) else (ns.length : Int)) = (ct : Int) := by
    have a1 := Int.emod_nonneg (n / 4000) (show ((ns.length : Nat) : Int) + 1 ≠ 0 by omega)
    split
    · obtain ⟨k, hk⟩ := Int.eq_ofNat_of_zero_le a1; exact ⟨k, hk⟩
    · exact ⟨ns.length, rfl⟩
  have c1 := cut_to (xs := ns.map MV.int) (i := (ct : Int)) (by omega)
  have c2 := cut_from (xs := ns.map MV.int) (i := (ct : Int)) (by omega)
  have tt : ((ct : Nat) : Int).toNat = ct := by omega
  rw [tt, ← List.map_take] at c1
  rw [tt, ← List.map_drop] at c2
  have p1 : Names (ns.take ct) := ⟨hns.1.sublist (List.take_sublist _ _), fun u hu => hns.2 u (List.mem_of_mem_take hu)⟩
  have p2 : Names (ns.drop ct) := ⟨hns.1.sublist (List.drop_sublist _ _), fun u hu => hns.2 u (List.mem_of_mem_drop hu)⟩
  have lt1 : (ns.take ct).length ≤ 200 := by rw [List.length_take]; omega
  have lt2 : (ns.drop ct).length ≤ 200 := by rw [List.length_drop]; omega
  obtain ⟨V1, d1, o7, o8, w1, k1, E1, ⟨u1, m1⟩, s1⟩ := flat_part h d hd ds2 D2 [] web_nil n n0 (ns.take ct) p1 lt1 (by simp) (fun u _ => by simp [keysOf']) (some (.int most)) (some (.lst (ns.map .int))) (some (.int (ct : Nat))) none none
  rw [List.nil_append] at w1 s1
  have lv1 : V1.length ≤ 200 := by rw [← keys_len, k1]; exact lt1
  have dis : ∀ u ∈ ns.drop ct, u ∉ keysOf' V1 := fun u hu hm => by
    rw [k1] at hm
    have nd := hns.1
    rw [← List.take_append_drop ct ns, List.nodup_append] at nd
    exact nd.2.2 u hm u hu rfl
  obtain ⟨V2, d2, o7', o8', w2, k2, E2, ⟨u2, m2⟩, s2⟩ := flat_part h d hd d1 E1 V1 w1 n n0 (ns.drop ct) p2 lt2 lv1 dis (some (.int most)) (some (.lst (ns.map .int))) (some (.int (ct : Nat))) o7 o8
  have kw : keysOf' (V1 ++ V2) = ns := by rw [keys_app, k1, k2, List.take_append_drop]
  have lw : (V1 ++ V2).length = ns.length := by rw [← keys_len, kw]
  have nw : Names (keysOf' (V1 ++ V2)) := by rw [kw]; exact hns
  have cell : ((h.set d (.lst (d2.map .int))) ++ [.dK (rowsV (V1 ++ V2))])[h.length]? = some (.dK (rowsV (V1 ++ V2))) := get_end (by simp)
  obtain ⟨V, tV, wV, nV, lV, eb⟩ := begun_rot ((h.set d (.lst (d2.map .int))) ++ [.dK (rowsV (V1 ++ V2))]) d d2 (get_app (get_set hd)) E2 (V1 ++ V2) w2 nw (by omega) (fun u r e => w2.len nw.2 e) (.ref h.length) (fun h2 hk => by
    have c2 := hk h.length _ (by omega) cell
    exact ⟨by simp only [dictK, c2], fun u r er => ix_rows c2 er⟩)
  rw [set_app hd] at eb
  refine ⟨V, d2.tail, wV, nV, by omega, E2.tail, .turn (V1 ++ V2) V w2 tV.1 tV.2 (.join V1 V2 u1 u2 (fun u a b => dis u (k2 ▸ b) a) m1 m2), ?_⟩
  have st1 : sAsg (xCall g__law_next (xCons (xVar 0) xNil)) (gNm 2) [some (.ref d), some (.int most), none, none, none, none, none, none, none] h = some (.nx, [some (.ref d), some (.int most), some (.int n), none, none, none, none, none, none], h.set d (.lst (ds1.map .int))) := by
    simp only [ewd, en]
  have st2 : sAsg (xCall g__law_names (xCons (xVar 0) (xCons (xOp opMod (xVar 2) (xOp opAdd (xVar 1) (xC (.int 1)))) xNil))) (gNm 3) [some (.ref d), some (.int most), some (.int n), none, none, none, none, none, none] (h.set d (.lst (ds1.map .int))) = some (.nx, [some (.ref d), some (.int most), some (.int n), some (.lst (ns.map .int)), none, none, none, none, none], h.set d (.lst (ds2.map .int))) := by
    simp (discharger := omega) only [sSeq, sAsg, sIf, sRet, sRetN, sExpr, sNext, sPar, sPar3, sBk, sCt, sFor, sPut, gNm, gTp, gsCons, gsNil, xVar, xC, xOp, xUn, xCons, xNil, xArgs, xCall, xTup, xLst, xBox, boxM, xIf, xAnd, xOr, xNot, xB, xAndT, xOrT, xNotT, xAppend, xPop, xPopAt, xExtend, xExtendT, xSlL, xPart, xNoPart, iSeq, iRange1, iRange2, cYes, seqOf, listOf, isLstC, runDef, sBegin, List.map_cons, List.map_nil, List.length_cons, List.length_nil, List.getElem?_cons_zero, List.getElem?_cons_succ, List.getElem?_nil, List.set_cons_zero, List.set_cons_succ, List.cons_append, List.nil_append, List.append_nil, Nat.sub_self, Nat.zero_add, Nat.reduceAdd, Nat.reduceSub, Nat.add_one_sub_one, List.replicate_zero, List.replicate_succ, Option.map_some, if_true, if_false, decide_true, decide_false, Bool.not_true, Bool.not_false, Bool.true_or, Bool.false_or, Bool.or_true, Bool.or_false, Bool.true_and, Bool.false_and, Bool.and_true, Bool.and_false, beq_self_eq_true, opAdd, opSub, opNeg, opLt, opLe, opGt, opGe, fLen, fAbs, fMax2, fMin2, fIsi, tyN, fList, fTuple, fDictP, opCat, opCatT, lstC, fKeys, fKeysS, fSorted, xPairs, xDisp, xUpdate, sForK, gLp, fKeysT, opRevT, iEnumT, keyOf, keyV, opIsBl, opNotBl, dictK, st_NoneType_bool, st_NoneType_int, st_NoneType_str, st_NoneType_tuple, st_NoneType_list, st_NoneType_dict, st_bool_bool, st_bool_int, st_bool_str, st_bool_tuple, st_bool_list, st_bool_dict, st_int_bool, st_int_int, st_int_str, st_int_tuple, st_int_list, st_int_dict, st_str_bool, st_str_int, st_str_str, st_str_tuple, st_str_list, st_str_dict, st_tuple_bool, st_tuple_int, st_tuple_str, st_tuple_tuple, st_tuple_list, st_tuple_dict, st_list_bool, st_list_int, st_list_str, st_list_tuple, st_list_list, st_list_dict, st_dict_bool, st_dict_int, st_dict_str, st_dict_tuple, st_dict_list, st_dict_dict, mod_ok, hmn, ens]
  have st3 : sAsg (xArgs fLen (xCons (xVar 3) xNil)) (gNm 4) [some (.ref d), some (.int most), some (.int n), some (.lst (ns.map .int)), none, none, none, none, none] (h.set d (.lst (ds2.map .int))) = some (.nx, [some (.ref d), some (.int most), some (.int n), some (.lst (ns.map .int)), some (.int (ns.length : Nat)), none, none, none, none], h.set d (.lst (ds2.map .int))) := by
    simp only [ewd, List.length_map]
  have st4 : sIf (xB (xOp opEq (xOp opMod (xOp opDiv (xVar 2) (xC (.int 1000))) (xC (.int 4))) (xC (.int 0)))) (sAsg (xOp opMod (xOp opDiv (xVar 2) (xC (.int 4000))) (xOp opAdd (xArgs fLen (xCons (xVar 3) xNil)) (xC (.int 1)))) (gNm 4)) sNext [some (.ref d), some (.int most), some (.int n), some (.lst (ns.map .int)), some (.int (ns.length : Nat)), none, none, none, none] (h.set d (.lst (ds2.map .int))) = some (.nx, [some (.ref d), some (.int most), some (.int n), some (.lst (ns.map .int)), some (.int (ct : Nat)), none, none, none, none], h.set d (.lst (ds2.map .int))) := by
    by_cases q : n / 1000 % 4 = 0
    · rw [if_pos q] at hct
      simp (discharger := omega) only [sSeq, sAsg, sIf, sRet, sRetN, sExpr, sNext, sPar, sPar3, sBk, sCt, sFor, sPut, gNm, gTp, gsCons, gsNil, xVar, xC, xOp, xUn, xCons, xNil, xArgs, xCall, xTup, xLst, xBox, boxM, xIf, xAnd, xOr, xNot, xB, xAndT, xOrT, xNotT, xAppend, xPop, xPopAt, xExtend, xExtendT, xSlL, xPart, xNoPart, iSeq, iRange1, iRange2, cYes, seqOf, listOf, isLstC, runDef, sBegin, List.map_cons, List.map_nil, List.length_cons, List.length_nil, List.getElem?_cons_zero, List.getElem?_cons_succ, List.getElem?_nil, List.set_cons_zero, List.set_cons_succ, List.cons_append, List.nil_append, List.append_nil, Nat.sub_self, Nat.zero_add, Nat.reduceAdd, Nat.reduceSub, Nat.add_one_sub_one, List.replicate_zero, List.replicate_succ, Option.map_some, if_true, if_false, decide_true, decide_false, Bool.not_true, Bool.not_false, Bool.true_or, Bool.false_or, Bool.or_true, Bool.or_false, Bool.true_and, Bool.false_and, Bool.and_true, Bool.and_false, beq_self_eq_true, opAdd, opSub, opNeg, opLt, opLe, opGt, opGe, fLen, fAbs, fMax2, fMin2, fIsi, tyN, fList, fTuple, fDictP, opCat, opCatT, lstC, fKeys, fKeysS, fSorted, xPairs, xDisp, xUpdate, sForK, gLp, fKeysT, opRevT, iEnumT, keyOf, keyV, opIsBl, opNotBl, dictK, st_NoneType_bool, st_NoneType_int, st_NoneType_str, st_NoneType_tuple, st_NoneType_list, st_NoneType_dict, st_bool_bool, st_bool_int, st_bool_str, st_bool_tuple, st_bool_list, st_bool_dict, st_int_bool, st_int_int, st_int_str, st_int_tuple, st_int_list, st_int_dict, st_str_bool, st_str_int, st_str_str, st_str_tuple, st_str_list, st_str_dict, st_tuple_bool, st_tuple_int, st_tuple_str, st_tuple_tuple, st_tuple_list, st_tuple_dict, st_list_bool, st_list_int, st_list_str, st_list_tuple, st_list_list, st_list_dict, st_dict_bool, st_dict_int, st_dict_str, st_dict_tuple, st_dict_list, st_dict_dict, div_ok, mod_ok, eq_ii, beq_t q, List.length_map, hct]
    · rw [if_neg q] at hct
      simp (discharger := omega) only [sSeq, sAsg, sIf, sRet, sRetN, sExpr, sNext, sPar, sPar3, sBk, sCt, sFor, sPut, gNm, gTp, gsCons, gsNil, xVar, xC, xOp, xUn, xCons, xNil, xArgs, xCall, xTup, xLst, xBox, boxM, xIf, xAnd, xOr, xNot, xB, xAndT, xOrT, xNotT, xAppend, xPop, xPopAt, xExtend, xExtendT, xSlL, xPart, xNoPart, iSeq, iRange1, iRange2, cYes, seqOf, listOf, isLstC, runDef, sBegin, List.map_cons, List.map_nil, List.length_cons, List.length_nil, List.getElem?_cons_zero, List.getElem?_cons_succ, List.getElem?_nil, List.set_cons_zero, List.set_cons_succ, List.cons_append, List.nil_append, List.append_nil, Nat.sub_self, Nat.zero_add, Nat.reduceAdd, Nat.reduceSub, Nat.add_one_sub_one, List.replicate_zero, List.replicate_succ, Option.map_some, if_true, if_false, decide_true, decide_false, Bool.not_true, Bool.not_false, Bool.true_or, Bool.false_or, Bool.or_true, Bool.or_false, Bool.true_and, Bool.false_and, Bool.and_true, Bool.and_false, beq_self_eq_true, opAdd, opSub, opNeg, opLt, opLe, opGt, opGe, fLen, fAbs, fMax2, fMin2, fIsi, tyN, fList, fTuple, fDictP, opCat, opCatT, lstC, fKeys, fKeysS, fSorted, xPairs, xDisp, xUpdate, sForK, gLp, fKeysT, opRevT, iEnumT, keyOf, keyV, opIsBl, opNotBl, dictK, st_NoneType_bool, st_NoneType_int, st_NoneType_str, st_NoneType_tuple, st_NoneType_list, st_NoneType_dict, st_bool_bool, st_bool_int, st_bool_str, st_bool_tuple, st_bool_list, st_bool_dict, st_int_bool, st_int_int, st_int_str, st_int_tuple, st_int_list, st_int_dict, st_str_bool, st_str_int, st_str_str, st_str_tuple, st_str_list, st_str_dict, st_tuple_bool, st_tuple_int, st_tuple_str, st_tuple_tuple, st_tuple_list, st_tuple_dict, st_list_bool, st_list_int, st_list_str, st_list_tuple, st_list_list, st_list_dict, st_dict_bool, st_dict_int, st_dict_str, st_dict_tuple, st_dict_list, st_dict_dict, div_ok, mod_ok, eq_ii, beq_f q, hct]
  have st5 : sAsg (xBox (xC (.dK []))) (gNm 5) [some (.ref d), some (.int most), some (.int n), some (.lst (ns.map .int)), some (.int (ct : Nat)), none, none, none, none] (h.set d (.lst (ds2.map .int))) = some (.nx, [some (.ref d), some (.int most), some (.int n), some (.lst (ns.map .int)), some (.int (ct : Nat)), some (.ref h.length), none, none, none], h.set d (.lst (ds2.map .int)) ++ [.dK []]) := by
    simp only [ewd, List.length_set]
  have it : iSeq (xLst (xCons (xSlL (xVar 3) xNoPart (xPart (xVar 4))) (xCons (xSlL (xVar 3) (xPart (xVar 4)) xNoPart) xNil))) [some (.ref d), some (.int most), some (.int n), some (.lst (ns.map .int)), some (.int (ct : Nat)), some (.ref h.length), none, none, none] (h.set d (.lst (ds2.map .int)) ++ [.dK []]) = some (.vals [.lst ((ns.take ct).map .int), .lst ((ns.drop ct).map .int)], h.set d (.lst (ds2.map .int)) ++ [.dK []]) := by
    simp only [ewd, c1, c2]
  have lp : forGo (gNm 6) B1__law_flat [.lst ((ns.take ct).map .int), .lst ((ns.drop ct).map .int)] [some (.ref d), some (.int most), some (.int n), some (.lst (ns.map .int)), some (.int (ct : Nat)), some (.ref h.length), none, none, none] (h.set d (.lst (ds2.map .int)) ++ [.dK []]) = some (.nx, [some (.ref d), some (.int most), some (.int n), some (.lst (ns.map .int)), some (.int (ct : Nat)), some (.ref h.length), some (.lst ((ns.drop ct).map .int)), o7', o8'], h.set d (.lst (d2.map .int)) ++ [.dK (rowsV (V1 ++ V2))]) := by
    have s1' : B1__law_flat [some (.ref d), some (.int most), some (.int n), some (.lst (ns.map .int)), some (.int (ct : Nat)), some (.ref h.length), some (.lst ((ns.take ct).map .int)), none, none] (h.set d (.lst (ds2.map .int)) ++ [.dK []]) = _ := s1
    simp only [forGo, gNm, List.set_cons_succ, List.set_cons_zero, s1', s2]
  have raw : g__law_flat [.ref d, .int most] h = some (.dK (websV V), (h.set d (.lst (d2.tail.map .int))) ++ [.dK (rowsV (V1 ++ V2))]) :=
    run_rt (b := b__law_flat) ((seq_nx st1).trans ((seq_nx st2).trans ((seq_nx st3).trans ((seq_nx st4).trans ((seq_nx st5).trans ((seq_nx ((for_at it).trans lp)).trans (ret_at (by simp only [xCall, xCons, xNil, xVar, List.getElem?_cons_succ, List.getElem?_cons_zero, eb]))))))))
  exact toldV_at raw (by simp only [plainV]; exact plain_webs V) (by simp) (set_plain (plain_ints _))
theorem flat_at (h : MH) (d : Nat) (ds : List Int) (e : h[d]? = some (.lst (ds.map .int))) (hD : Drawn ds) (most : Int) (m0 : 0 ≤ most) (m1 : most ≤ 200) :
    ∃ V ds', Web V ∧ Names (keysOf' V) ∧ (V.length : Int) ≤ most ∧ Drawn ds' ∧ (toldV g__law_flat) [.ref d, .int most] h = some (.dK (websV V), h.set d (.lst (ds'.map .int))) := by
  obtain ⟨V, ds', a, b, c, e, _, r⟩ := flat_made h d ds e hD most m0 m1
  exact ⟨V, ds', a, b, c, e, r⟩
--@fresh _law_twin
def B1__law_twin : XS := (sPut (xVar 1) (xVar 2) (xOp opIx (xVar 0) (xVar 2)))
def b__law_twin : XS := (sSeq (sAsg (xBox (xC (.dK []))) (gNm 1))
    (sSeq (sForK 0 (gNm 2) B1__law_twin)
    (sRet (xVar 1))))
def g__law_twin : Fn := runDef 3 b__law_twin
theorem d__law_twin {x0 : MV} {h : MH} {R : MV → MH → Prop} (w : Wp (b__law_twin [some x0, none, none] h) fun f _ h1 => kR f fun v => R v h1) : We (g__law_twin [x0] h) R := we_def w

theorem twin_at (D : List (Int × MV)) (nd : (D.map (·.1)).Nodup) (hl : D.length ≤ 100000) (hp : ∀ p ∈ D, plainV p.2 = true) (h : MH) : (toldF g__law_twin) [.dK (dictI D)] h = some (.dK (dictI D), h) := by
  have st1 : sAsg (xBox (xC (.dK []))) (gNm 1) [some (.dK (dictI D)), none, none] h = some (.nx, [some (.dK (dictI D)), some (.ref h.length), none], h ++ [.dK (dictI [])]) := rfl
  obtain ⟨s', h', e, o, rfl, rfl⟩ := forGo_run (g := gNm 2) (b := B1__law_twin)
    (fun i s h1 => ∃ o, s = [some (.dK (dictI D)), some (.ref h.length), o] ∧ h1 = h ++ [.dK (dictI (D.take i))])
    ((D.map (·.1)).map .int) 0 [some (.dK (dictI D)), some (.ref h.length), none] (h ++ [.dK (dictI [])]) ⟨none, rfl, rfl⟩ (by
    rintro i x s h1 ex ⟨o, rfl, rfl⟩
    rw [Nat.zero_add]
    rw [List.getElem?_map, List.getElem?_map] at ex
    cases ep : D[i]? with
    | none => rw [ep] at ex; cases ex
    | some p =>
      rw [ep] at ex; cases ex
      have ts := take_snoc ep
      have nd2 : ((D.take (i + 1)).map (·.1)).Nodup := nd.sublist ((List.take_sublist (i + 1) D).map _)
      rw [ts, List.map_append, List.nodup_append] at nd2
      have q : p.1 ∉ (D.take i).map (·.1) := fun z => nd2.2.2 p.1 z p.1 (by simp) rfl
      have pw := put_dictI (h := h ++ [.dK (dictI (D.take i))]) (m := h.length) (v := p.2) get_last q (by rw [List.length_take]; unfold szLine; omega)
      rw [set_last, show (p.1, p.2) = p from rfl, ← ts] at pw
      have ei : xOp opIx (xVar 0) (xVar 2) [some (.dK (dictI D)), some (.ref h.length), some (.int p.1)] (h ++ [.dK (dictI (D.take i))]) = some (p.2, h ++ [.dK (dictI (D.take i))]) := op_at rfl rfl (ix_dictI nd (List.mem_of_getElem? ep))
      have sp : B1__law_twin [some (.dK (dictI D)), some (.ref h.length), some (.int p.1)] (h ++ [.dK (dictI (D.take i))]) = some (.nx, [some (.dK (dictI D)), some (.ref h.length), some (.int p.1)], h ++ [.dK (dictI (D.take (i + 1)))]) := put_at ei rfl rfl pw
      exact ⟨_, _, .nx, _, _, rfl, sp, .inl rfl, _, rfl, rfl⟩)
  rw [Nat.zero_add, List.length_map, List.length_map, List.take_length] at e
  have fk := forK_at (n := 0) (g := gNm 2) (b := B1__law_twin) (s := [some (.dK (dictI D)), some (.ref h.length), none]) (h := h ++ [.dK (dictI [])]) (kvs := dictI D) rfl
  rw [keysV_dictI] at fk
  have raw : g__law_twin [.dK (dictI D)] h = some (.ref h.length, h ++ [.dK (dictI D)]) := run_rt (b := b__law_twin) ((seq_nx st1).trans ((seq_nx (fk.trans e)).trans (ret_at rfl)))
  exact toldF_dK raw get_last (by omega) (plain_dictI hp) rfl same_plain
theorem twin_web (W : WL) (nd : (keysOf' W).Nodup) (hl : W.length ≤ 100000) (h : MH) : (toldF g__law_twin) [.dK (websV W)] h = some (.dK (websV W), h) := by
  rw [websI]
  refine twin_at _ (by simpa [keysOf', Function.comp_def] using nd) (by rw [List.length_map]; exact hl) ?_ h
  intro p hp
  obtain ⟨q, _, rfl⟩ := List.mem_map.mp hp
  simp only [plainV]; exact plain_ints _
def W1_common : XT := (xB (xOp opGt (xVar 1) (xC (.int 0))))
def B1_common : XS := (sPar 0 1 (xVar 1) (xOp opMod (xVar 0) (xVar 1)))
def b_common : XS := (sSeq (sWhile W1_common B1_common)
    (sRet (xVar 0)))
def g_common : Fn := runDef 2 b_common
theorem d_common {x0 x1 : MV} {h : MH} {R : MV → MH → Prop} (w : Wp (b_common [some x0, some x1] h) fun f _ h1 => kR f fun v => R v h1) : We (g_common [x0, x1] h) R := we_def w

theorem common_at (a b : Int) (h : MH) (ha : 0 ≤ a) (hb : 0 ≤ b) (hb2 : b < 1606938044258990275541962092341162602522202993782792835301376) : g_common [.int a, .int b] h = some (.int (Int.gcd a b), h) := by
  have w := sWhile_run (c := W1_common) (b := B1_common)
    (fun s h1 => ∃ x y : Int, s = [some (.int x), some (.int y)] ∧ h1 = h ∧ 0 ≤ x ∧ 0 ≤ y ∧ y < 1606938044258990275541962092341162602522202993782792835301376 ∧ Int.gcd x y = Int.gcd a b)
    (fun s h1 => s = [some (.int (Int.gcd a b)), some (.int 0)] ∧ h1 = h)
    (fun s _ => match s with | [_, some (.int y)] => y.toNat | _ => 0)
    (by
      rintro s h1 ⟨x, y, rfl, rfl, hx, hy, hy2, hg⟩
      by_cases q : 0 < y
      · refine .inr ⟨h1, .nx, [some (.int y), some (.int (x % y))], h1, ?_, ?_, .inl rfl, ⟨y, x % y, rfl, rfl, hy, Int.emod_nonneg x (by omega), ?_, ?_⟩, ?_⟩
        · simp only [ews, W1_common, q]
        · simp (discharger := omega) only [B1_common, sSeq, sAsg, sIf, sRet, sRetN, sExpr, sNext, sPar, sPar3, sBk, sCt, sFor, sPut, gNm, gTp, gsCons, gsNil, xVar, xC, xOp, xUn, xCons, xNil, xArgs, xCall, xTup, xLst, xBox, boxM, xIf, xAnd, xOr, xNot, xB, xAndT, xOrT, xNotT, xAppend, xPop, xPopAt, xExtend, xExtendT, xSlL, xPart, xNoPart, iSeq, iRange1, iRange2, cYes, seqOf, listOf, isLstC, runDef, sBegin, List.map_cons, List.map_nil, List.length_cons, List.length_nil, List.getElem?_cons_zero, List.getElem?_cons_succ, List.getElem?_nil, List.set_cons_zero, List.set_cons_succ, List.cons_append, List.nil_append, List.append_nil, Nat.sub_self, Nat.zero_add, Nat.reduceAdd, Nat.reduceSub, Nat.add_one_sub_one, List.replicate_zero, List.replicate_succ, Option.map_some, if_true, if_false, decide_true, decide_false, Bool.not_true, Bool.not_false, Bool.true_or, Bool.false_or, Bool.or_true, Bool.or_false, Bool.true_and, Bool.false_and, Bool.and_true, Bool.and_false, beq_self_eq_true, opAdd, opSub, opNeg, opLt, opLe, opGt, opGe, opIx, fLen, fAbs, fMax2, fMin2, fIsi, tyN, fList, fTuple, fDictP, opCat, opCatT, lstC, fKeys, fKeysS, fSorted, xPairs, xDisp, xUpdate, sForK, gLp, fKeysT, opRevT, iEnumT, keyOf, keyV, opIsBl, opNotBl, dictK, st_NoneType_bool, st_NoneType_int, st_NoneType_str, st_NoneType_tuple, st_NoneType_list, st_NoneType_dict, st_bool_bool, st_bool_int, st_bool_str, st_bool_tuple, st_bool_list, st_bool_dict, st_int_bool, st_int_int, st_int_str, st_int_tuple, st_int_list, st_int_dict, st_str_bool, st_str_int, st_str_str, st_str_tuple, st_str_list, st_str_dict, st_tuple_bool, st_tuple_int, st_tuple_str, st_tuple_tuple, st_tuple_list, st_tuple_dict, st_list_bool, st_list_int, st_list_str, st_list_tuple, st_list_list, st_list_dict, st_dict_bool, st_dict_int, st_dict_str, st_dict_tuple, st_dict_list, st_dict_dict, mod_ok]
        · have := Int.emod_lt_of_pos x q; omega
        · rw [← hg]
          obtain ⟨m, rfl⟩ := Int.eq_ofNat_of_zero_le hx
          obtain ⟨n, rfl⟩ := Int.eq_ofNat_of_zero_le hy
          rw [← Int.natCast_emod]
          show Nat.gcd n (m % n) = Nat.gcd m n
          rw [Nat.gcd_comm m n, Nat.gcd_rec n m, Nat.gcd_comm]
        · have := Int.emod_lt_of_pos x q
          have := Int.emod_nonneg x (show y ≠ 0 by omega)
          show (x % y).toNat < y.toNat
          omega
      · have e : y = 0 := by omega
        subst e
        refine .inl ⟨h1, ?_, ?_, rfl⟩
        · simp only [ews, W1_common]; rfl
        · rw [← hg, Int.gcd_zero_right]
          have : ((x.natAbs : Nat) : Int) = x := by omega
          rw [this])
    [some (.int a), some (.int b)] h ⟨a, b, rfl, rfl, ha, hb, hb2, rfl⟩
  obtain ⟨s', h', e, rfl, rfl⟩ := w
  simp only [ews, g_common, b_common, e]

def b_fraction : XS := (sSeq (sIf (xB (xOp opLt (xVar 1) (xC (.int 0)))) (sSeq (sAsg (xOp opSub (xC (.int 0)) (xVar 0)) (gNm 0))
    (sAsg (xOp opSub (xC (.int 0)) (xVar 1)) (gNm 1))) sNext)
    (sSeq (sAsg (xCall g_common (xCons (xArgs fAbs (xCons (xVar 0) xNil)) (xCons (xVar 1) xNil))) (gNm 2))
    (sRet (xTup (xCons (xOp opDiv (xVar 0) (xVar 2)) (xCons (xOp opDiv (xVar 1) (xVar 2)) xNil))))))
def g_fraction : Fn := runDef 3 b_fraction
theorem d_fraction {x0 x1 : MV} {h : MH} {R : MV → MH → Prop} (w : Wp (b_fraction [some x0, some x1, none] h) fun f _ h1 => kR f fun v => R v h1) : We (g_fraction [x0, x1] h) R := we_def w

/-- a over b in lowest terms -/
def lowOf (a b : Int) : Int × Int := (a / (Int.gcd a b : Nat), b / (Int.gcd a b : Nat))
def frV (p : Int × Int) : MV := .tup [.int p.1, .int p.2]
theorem gcd_abs (a b : Int) : Int.gcd (if a < 0 then -a else a) b = Int.gcd a b := by
  split
  · exact Int.neg_gcd
  · rfl
theorem gcd_rng {a b : Int} (hb : 0 < b) : 0 < ((Int.gcd a b : Nat) : Int) ∧ ((Int.gcd a b : Nat) : Int) ≤ b := by
  have h1 : 0 < Int.gcd a b := Int.gcd_pos_of_ne_zero_right a (by omega)
  have h2 : ((Int.gcd a b : Nat) : Int) ∣ b := Int.gcd_dvd_right a b
  exact ⟨by omega, Int.le_of_dvd hb h2⟩
theorem fraction_pos (a b : Int) (h : MH) (hb : 0 < b) (hb2 : b < 1606938044258990275541962092341162602522202993782792835301376) : g_fraction [.int a, .int b] h = some (frV (lowOf a b), h) := by
  obtain ⟨g0, g1⟩ := gcd_rng (a := a) hb
  have q : ¬ b < 0 := by omega
  have e := common_at (if a < 0 then -a else a) b h (by split <;> omega) (by omega) hb2
  rw [gcd_abs] at e
  simp (discharger := omega) only [g_fraction, b_fraction, sSeq, sAsg, sIf, sRet, sRetN, sExpr, sNext, sPar, sPar3, sBk, sCt, sFor, sPut, gNm, gTp, gsCons, gsNil, xVar, xC, xOp, xUn, xCons, xNil, xArgs, xCall, xTup, xLst, xBox, boxM, xIf, xAnd, xOr, xNot, xB, xAndT, xOrT, xNotT, xAppend, xPop, xPopAt, xExtend, xExtendT, xSlL, xPart, xNoPart, iSeq, iRange1, iRange2, cYes, seqOf, listOf, isLstC, runDef, sBegin, List.map_cons, List.map_nil, List.length_cons, List.length_nil, List.getElem?_cons_zero, List.getElem?_cons_succ, List.getElem?_nil, List.set_cons_zero, List.set_cons_succ, List.cons_append, List.nil_append, List.append_nil, Nat.sub_self, Nat.zero_add, Nat.reduceAdd, Nat.reduceSub, Nat.add_one_sub_one, List.replicate_zero, List.replicate_succ, Option.map_some, if_true, if_false, decide_true, decide_false, Bool.not_true, Bool.not_false, Bool.true_or, Bool.false_or, Bool.or_true, Bool.or_false, Bool.true_and, Bool.false_and, Bool.and_true, Bool.and_false, beq_self_eq_true, opAdd, opSub, opNeg, opLt, opLe, opGt, opGe, opIx, fLen, fAbs, fMax2, fMin2, fIsi, tyN, fList, fTuple, fDictP, opCat, opCatT, lstC, fKeys, fKeysS, fSorted, xPairs, xDisp, xUpdate, sForK, gLp, fKeysT, opRevT, iEnumT, keyOf, keyV, opIsBl, opNotBl, dictK, st_NoneType_bool, st_NoneType_int, st_NoneType_str, st_NoneType_tuple, st_NoneType_list, st_NoneType_dict, st_bool_bool, st_bool_int, st_bool_str, st_bool_tuple, st_bool_list, st_bool_dict, st_int_bool, st_int_int, st_int_str, st_int_tuple, st_int_list, st_int_dict, st_str_bool, st_str_int, st_str_str, st_str_tuple, st_str_list, st_str_dict, st_tuple_bool, st_tuple_int, st_tuple_str, st_tuple_tuple, st_tuple_list, st_tuple_dict, st_list_bool, st_list_int, st_list_str, st_list_tuple, st_list_list, st_list_dict, st_dict_bool, st_dict_int, st_dict_str, st_dict_tuple, st_dict_list, st_dict_dict, q, e, div_ok]
  rfl
def W1__law_low : XT := (xB (xOp opGt (xVar 3) (xC (.int 0))))
def B1__law_low : XS := (sPar 2 3 (xVar 3) (xOp opMod (xVar 2) (xVar 3)))
def b__law_low : XS := (sSeq (sPar 2 3 (xArgs fAbs (xCons (xVar 0) xNil)) (xVar 1))
    (sSeq (sWhile W1__law_low B1__law_low)
    (sRet (xTup (xCons (xOp opDiv (xVar 0) (xVar 2)) (xCons (xOp opDiv (xVar 1) (xVar 2)) xNil))))))
def g__law_low : Fn := runDef 4 b__law_low
theorem d__law_low {x0 x1 : MV} {h : MH} {R : MV → MH → Prop} (w : Wp (b__law_low [some x0, some x1, none, none] h) fun f _ h1 => kR f fun v => R v h1) : We (g__law_low [x0, x1] h) R := we_def w

theorem low_loop (a b : Int) (h : MH) (x0 y0 : Int) (ha : 0 ≤ x0) (hb : 0 ≤ y0) (hb2 : y0 < 1606938044258990275541962092341162602522202993782792835301376) : sWhile W1__law_low B1__law_low [some (.int a), some (.int b), some (.int x0), some (.int y0)] h
    = some (.nx, [some (.int a), some (.int b), some (.int (Int.gcd x0 y0 : Nat)), some (.int 0)], h) := by
  obtain ⟨s', h', e, rfl, rfl⟩ := sWhile_run (c := W1__law_low) (b := B1__law_low)
    (fun s h1 => ∃ x y : Int, s = [some (.int a), some (.int b), some (.int x), some (.int y)] ∧ h1 = h ∧ 0 ≤ x ∧ 0 ≤ y ∧ y < 1606938044258990275541962092341162602522202993782792835301376 ∧ Int.gcd x y = Int.gcd x0 y0)
    (fun s h1 => s = [some (.int a), some (.int b), some (.int (Int.gcd x0 y0 : Nat)), some (.int 0)] ∧ h1 = h)
    (fun s _ => match s with | [_, _, _, some (.int y)] => y.toNat | _ => 0)
    (by
      rintro s h1 ⟨x, y, rfl, rfl, hx, hy, hy2, hg⟩
      by_cases q : 0 < y
      · refine .inr ⟨h1, .nx, [some (.int a), some (.int b), some (.int y), some (.int (x % y))], h1, ?_, ?_, .inl rfl, ⟨y, x % y, rfl, rfl, hy, Int.emod_nonneg x (by omega), ?_, ?_⟩, ?_⟩
        · simp only [ews, W1__law_low, q]
        · simp (discharger := omega) only [B1__law_low, sSeq, sAsg, sIf, sRet, sRetN, sExpr, sNext, sPar, sPar3, sBk, sCt, sFor, sPut, gNm, gTp, gsCons, gsNil, xVar, xC, xOp, xUn, xCons, xNil, xArgs, xCall, xTup, xLst, xBox, boxM, xIf, xAnd, xOr, xNot, xB, xAndT, xOrT, xNotT, xAppend, xPop, xPopAt, xExtend, xExtendT, xSlL, xPart, xNoPart, iSeq, iRange1, iRange2, cYes, seqOf, listOf, isLstC, runDef, sBegin, List.map_cons, List.map_nil, List.length_cons, List.length_nil, List.getElem?_cons_zero, List.getElem?_cons_succ, List.getElem?_nil, List.set_cons_zero, List.set_cons_succ, List.cons_append, List.nil_append, List.append_nil, Nat.sub_self, Nat.zero_add, Nat.reduceAdd, Nat.reduceSub, Nat.add_one_sub_one, List.replicate_zero, List.replicate_succ, Option.map_some, if_true, if_false, decide_true, decide_false, Bool.not_true, Bool.not_false, Bool.true_or, Bool.false_or, Bool.or_true, Bool.or_false, Bool.true_and, Bool.false_and, Bool.and_true, Bool.and_false, beq_self_eq_true, opAdd, opSub, opNeg, opLt, opLe, opGt, opGe, opIx, fLen, fAbs, fMax2, fMin2, fIsi, tyN, fList, fTuple, fDictP, opCat, opCatT, lstC, fKeys, fKeysS, fSorted, xPairs, xDisp, xUpdate, sForK, gLp, fKeysT, opRevT, iEnumT, keyOf, keyV, opIsBl, opNotBl, dictK, st_NoneType_bool, st_NoneType_int, st_NoneType_str, st_NoneType_tuple, st_NoneType_list, st_NoneType_dict, st_bool_bool, st_bool_int, st_bool_str, st_bool_tuple, st_bool_list, st_bool_dict, st_int_bool, st_int_int, st_int_str, st_int_tuple, st_int_list, st_int_dict, st_str_bool, st_str_int, st_str_str, st_str_tuple, st_str_list, st_str_dict, st_tuple_bool, st_tuple_int, st_tuple_str, st_tuple_tuple, st_tuple_list, st_tuple_dict, st_list_bool, st_list_int, st_list_str, st_list_tuple, st_list_list, st_list_dict, st_dict_bool, st_dict_int, st_dict_str, st_dict_tuple, st_dict_list, st_dict_dict, mod_ok]
        · have := Int.emod_lt_of_pos x q; omega
        · rw [← hg]
          obtain ⟨m, rfl⟩ := Int.eq_ofNat_of_zero_le hx
          obtain ⟨n, rfl⟩ := Int.eq_ofNat_of_zero_le hy
          rw [← Int.natCast_emod]
          show Nat.gcd n (m % n) = Nat.gcd m n
          rw [Nat.gcd_comm m n, Nat.gcd_rec n m, Nat.gcd_comm]
        · have := Int.emod_lt_of_pos x q
          have := Int.emod_nonneg x (show y ≠ 0 by omega)
          show (x % y).toNat < y.toNat
          omega
      · have e : y = 0 := by omega
        subst e
        refine .inl ⟨h1, ?_, ?_, rfl⟩
        · simp only [ews, W1__law_low]; rfl
        · rw [← hg, Int.gcd_zero_right]
          have : ((x.natAbs : Nat) : Int) = x := by omega
          rw [this])
    [some (.int a), some (.int b), some (.int x0), some (.int y0)] h ⟨x0, y0, rfl, rfl, ha, hb, hb2, rfl⟩
  exact e
theorem low_at (a b : Int) (h : MH) (hb : 0 < b) (hb2 : b < 1606938044258990275541962092341162602522202993782792835301376) : g__law_low [.int a, .int b] h = some (frV (lowOf a b), h) := by
  obtain ⟨g0, g1⟩ := gcd_rng (a := a) hb
  have e := low_loop a b h (if a < 0 then -a else a) b (by split <;> omega) (by omega) hb2
  rw [gcd_abs] at e
  simp (discharger := omega) only [g__law_low, b__law_low, sSeq, sAsg, sIf, sRet, sRetN, sExpr, sNext, sPar, sPar3, sBk, sCt, sFor, sPut, gNm, gTp, gsCons, gsNil, xVar, xC, xOp, xUn, xCons, xNil, xArgs, xCall, xTup, xLst, xBox, boxM, xIf, xAnd, xOr, xNot, xB, xAndT, xOrT, xNotT, xAppend, xPop, xPopAt, xExtend, xExtendT, xSlL, xPart, xNoPart, iSeq, iRange1, iRange2, cYes, seqOf, listOf, isLstC, runDef, sBegin, List.map_cons, List.map_nil, List.length_cons, List.length_nil, List.getElem?_cons_zero, List.getElem?_cons_succ, List.getElem?_nil, List.set_cons_zero, List.set_cons_succ, List.cons_append, List.nil_append, List.append_nil, Nat.sub_self, Nat.zero_add, Nat.reduceAdd, Nat.reduceSub, Nat.add_one_sub_one, List.replicate_zero, List.replicate_succ, Option.map_some, if_true, if_false, decide_true, decide_false, Bool.not_true, Bool.not_false, Bool.true_or, Bool.false_or, Bool.or_true, Bool.or_false, Bool.true_and, Bool.false_and, Bool.and_true, Bool.and_false, beq_self_eq_true, opAdd, opSub, opNeg, opLt, opLe, opGt, opGe, opIx, fLen, fAbs, fMax2, fMin2, fIsi, tyN, fList, fTuple, fDictP, opCat, opCatT, lstC, fKeys, fKeysS, fSorted, xPairs, xDisp, xUpdate, sForK, gLp, fKeysT, opRevT, iEnumT, keyOf, keyV, opIsBl, opNotBl, dictK, st_NoneType_bool, st_NoneType_int, st_NoneType_str, st_NoneType_tuple, st_NoneType_list, st_NoneType_dict, st_bool_bool, st_bool_int, st_bool_str, st_bool_tuple, st_bool_list, st_bool_dict, st_int_bool, st_int_int, st_int_str, st_int_tuple, st_int_list, st_int_dict, st_str_bool, st_str_int, st_str_str, st_str_tuple, st_str_list, st_str_dict, st_tuple_bool, st_tuple_int, st_tuple_str, st_tuple_tuple, st_tuple_list, st_tuple_dict, st_list_bool, st_list_int, st_list_str, st_list_tuple, st_list_list, st_list_dict, st_dict_bool, st_dict_int, st_dict_str, st_dict_tuple, st_dict_list, st_dict_dict, e, div_ok]
  rfl
--@fresh _law_steps
/-- the steps, rising -/
def stepsF (W : WL) (ks : List Int) : List (Int × Int) := ks.flatMap fun u => (sortI (rowsAt W u)).map fun v => (u, v)
def stepsOf (W : WL) : List (Int × Int) := stepsF W (sortI (keysOf' W))
theorem mem_stepsF {W : WL} {ks : List Int} {u v : Int} : (u, v) ∈ stepsF W ks ↔ u ∈ ks ∧ v ∈ rowsAt W u := by
  unfold stepsF
  simp only [List.mem_flatMap, List.mem_map, Prod.mk.injEq]
  constructor
  · rintro ⟨a, ha, b, hb, rfl, rfl⟩
    exact ⟨ha, (sortI_perm _).mem_iff.mp hb⟩
  · rintro ⟨hu, hv⟩
    exact ⟨u, hu, v, (sortI_perm _).mem_iff.mpr hv, rfl, rfl⟩
theorem mem_steps {W : WL} {u v : Int} : (u, v) ∈ stepsOf W ↔ ∃ r, rowOf W u = some r ∧ v ∈ r := by
  unfold stepsOf
  rw [mem_stepsF, (sortI_perm _).mem_iff]
  unfold rowsAt
  constructor
  · rintro ⟨hu, hv⟩
    obtain ⟨r, e⟩ := mem_rowOf hu
    rw [e] at hv
    exact ⟨r, e, hv⟩
  · rintro ⟨r, e, hv⟩
    exact ⟨rowOf_mem e, by rw [e]; exact hv⟩
theorem sortI_lt {r : List Int} (nd : r.Nodup) : (sortI r).Pairwise (· < ·) := by
  have h1 := sortI_sorted r
  have h2 : (sortI r).Nodup := (sortI_perm r).nodup_iff.mpr nd
  exact List.Pairwise.imp (fun {a b} h => by have := h.1; have := h.2; omega) (h1.and h2)
theorem steps_rise {W : WL} (w : Web W) : ∀ {ks : List Int}, ks.Pairwise (· < ·) → (stepsF W ks).Pairwise fun p q => p.1 < q.1 ∨ (p.1 = q.1 ∧ p.2 < q.2)
  | [], _ => by simp [stepsF]
  | k :: ks, h => by
    obtain ⟨h1, h2⟩ := List.pairwise_cons.mp h
    have ih := steps_rise w h2
    unfold stepsF at ih ⊢
    rw [List.flatMap_cons, List.pairwise_append]
    have nr : (rowsAt W k).Nodup := by
      unfold rowsAt
      cases e : rowOf W k with
      | none => exact List.nodup_nil
      | some r => exact (w.row k r e).1
    refine ⟨List.pairwise_map.mpr (List.Pairwise.imp (fun {a b} h => .inr ⟨rfl, h⟩) (sortI_lt nr)), ih, fun p hp q hq => ?_⟩
    obtain ⟨v, _, rfl⟩ := List.mem_map.mp hp
    obtain ⟨u, hu, hq⟩ := List.mem_flatMap.mp hq
    obtain ⟨v', _, rfl⟩ := List.mem_map.mp hq
    exact .inl (h1 u hu)
theorem steps_sorted {W : WL} (w : Web W) : (stepsOf W).Pairwise fun p q => p.1 < q.1 ∨ (p.1 = q.1 ∧ p.2 < q.2) := steps_rise w (sortI_lt w.nd)
theorem steps_nodup {W : WL} (w : Web W) : (stepsOf W).Nodup := List.Pairwise.imp (fun {a b} h e => by subst e; omega) (steps_sorted w)
theorem steps_lex {W : WL} (w : Web W) : (stepsOf W).Pairwise fun p q => lexLe p q = true := List.Pairwise.imp (fun {a b} h => by
  unfold lexLe
  simp only [Bool.or_eq_true, Bool.and_eq_true, decide_eq_true_eq]
  omega) (steps_sorted w)
theorem steps_len {W : WL} (hr : ∀ u r, rowOf W u = some r → r.length ≤ 1000) : ∀ ks : List Int, (stepsF W ks).length ≤ 1000 * ks.length
  | [] => by simp [stepsF]
  | k :: ks => by
    have ih := steps_len hr ks
    unfold stepsF at ih ⊢
    have : (rowsAt W k).length ≤ 1000 := by
      unfold rowsAt
      cases e : rowOf W k with
      | none => simp
      | some r => exact hr k r e
    rw [List.flatMap_cons, List.length_append, List.length_map, (sortI_perm _).length_eq, List.length_cons]
    omega
/-! ### dicts that are read: a value or a cell -/
def RdD (h : MH) (d : MV) (kvs : List (MK × MV)) : Prop := d = .dK kvs ∨ ∃ m, d = .ref m ∧ h[m]? = some (.dK kvs)
def RdL (h : MH) (d : MV) (kvs : List (MK × MV)) : Prop := d = .dK kvs ∨ ∃ m, d = .ref m ∧ (h[m]? = some (.dK kvs) ∨ h[m]? = some (.lkK kvs))
def lockD (h : MH) (d : MV) : MH := match d with
  | .ref m => match h[m]? with
    | some (.dK kvs) => h.set m (.lkK kvs)
    | _ => h
  | _ => h
section
variable {h : MH} {d : MV} {kvs : List (MK × MV)}
theorem RdD.l (R : RdD h d kvs) : RdL h d kvs := by
  rcases R with e | ⟨m, e1, e2⟩
  · exact .inl e
  · exact .inr ⟨m, e1, .inl e2⟩
theorem get_app' {h t : MH} {m : Nat} {c : MC} (e : h[m]? = some c) : (h ++ t)[m]? = some c := by rw [List.getElem?_append_left (lt_of_get e)]; exact e
theorem RdL.app (R : RdL h d kvs) (t : MH) : RdL (h ++ t) d kvs := by
  rcases R with e | ⟨m, e1, e2 | e2⟩
  · exact .inl e
  · exact .inr ⟨m, e1, .inl (get_app' e2)⟩
  · exact .inr ⟨m, e1, .inr (get_app' e2)⟩
theorem RdD.app (R : RdD h d kvs) (t : MH) : RdD (h ++ t) d kvs := by
  rcases R with e | ⟨m, e1, e2⟩
  · exact .inl e
  · exact .inr ⟨m, e1, get_app' e2⟩
theorem RdL.dict (R : RdL h d kvs) : dictK h d = some kvs := by
  rcases R with rfl | ⟨m, rfl, e2 | e2⟩
  · rfl
  · simp only [dictK, e2]
  · simp only [dictK, e2]
theorem RdL.seq (R : RdL h d kvs) : seqOf h d = none := by
  rcases R with rfl | ⟨m, rfl, e2 | e2⟩
  · rfl
  · simp only [seqOf, listOf, e2]
  · simp only [seqOf, listOf, e2]
theorem RdD.lock (R : RdD h d kvs) : RdL (lockD h d) d kvs := by
  rcases R with rfl | ⟨m, rfl, e2⟩
  · exact .inl rfl
  · refine .inr ⟨m, rfl, .inr ?_⟩
    simp only [lockD, e2]
    exact get_set (lt_of_get e2)
end
section
variable {h : MH} {d : MV} {W : WL}
theorem ix_rd {u : Int} {r : List Int} (R : RdL h d (websV W)) (q : rowOf W u = some r) : opIx h d (.int u) = some (.row (r.map .int)) := by
  unfold opIx
  simp only [R.seq, look_webs R.dict q]
theorem keysS_rd (R : RdL h d (websV W)) : fKeysS h d = some (.lst ((sortI (keysOf' W)).map .int)) := by
  simp only [fKeysS, R.dict, keysV_webs, ints_of_map, Option.map_some]
end
def B2__law_steps : XS := (sExpr (xAppend (xVar 1) (xTup (xCons (xVar 2) (xCons (xVar 3) xNil)))))
def B1__law_steps : XS := (sFor (iSeq (xArgs fSorted (xCons (xOp opIx (xVar 0) (xVar 2)) xNil))) (gNm 3) B2__law_steps)
def b__law_steps : XS := (sSeq (sAsg (xBox (xLst xNil)) (gNm 1))
    (sSeq (sFor (iSeq (xUn fKeysS (xVar 0))) (gNm 2) B1__law_steps)
    (sRet (xVar 1))))
def g__law_steps : Fn := runDef 4 b__law_steps
theorem d__law_steps {x0 : MV} {h : MH} {R : MV → MH → Prop} (w : Wp (b__law_steps [some x0, none, none, none] h) fun f _ h1 => kR f fun v => R v h1) : We (g__law_steps [x0] h) R := we_def w

theorem lsteps_rd (W : WL) (kl : W.length ≤ 1000) (hr : ∀ u r, rowOf W u = some r → r.length ≤ 1000) (h : MH) (D : MV) (R : RdL h D (websV W)) : (toldF g__law_steps) [D] h = some (.lst ((stepsOf W).map pairV), h) := by
  have lk := keys_len W
  have st1 : sAsg (xBox (xLst xNil)) (gNm 1) [some D, none, none, none] h = some (.nx, [some D, some (.ref h.length), none, none], h ++ [.lst ((stepsF W []).map pairV)]) := rfl
  have it : iSeq (xUn fKeysS (xVar 0)) [some D, some (.ref h.length), none, none] (h ++ [.lst ((stepsF W []).map pairV)]) = some (.vals ((sortI (keysOf' W)).map .int), h ++ [.lst ((stepsF W []).map pairV)]) := seq_lst (un_at rfl (keysS_rd (R.app _)))
  obtain ⟨s', h', e, o2, o3, rfl, rfl⟩ := forGo_run (g := gNm 2) (b := B1__law_steps)
    (fun i s h1 => ∃ o2 o3, s = [some D, some (.ref h.length), o2, o3] ∧ h1 = h ++ [.lst ((stepsF W ((sortI (keysOf' W)).take i)).map pairV)])
    ((sortI (keysOf' W)).map .int) 0 [some D, some (.ref h.length), none, none] (h ++ [.lst ((stepsF W []).map pairV)]) ⟨none, none, rfl, rfl⟩ (by
    rintro i x s h1 ex ⟨o2, o3, rfl, rfl⟩
    rw [Nat.zero_add]
    rw [List.getElem?_map] at ex
    cases eu : (sortI (keysOf' W))[i]? with
    | none => rw [eu] at ex; cases ex
    | some u =>
      rw [eu] at ex; cases ex
      have hi := (List.getElem?_eq_some_iff.mp eu).1
      have sl := (sortI_perm (keysOf' W)).length_eq
      obtain ⟨r, er⟩ := mem_rowOf ((sortI_perm (keysOf' W)).mem_iff.mp (List.mem_of_getElem? eu))
      have hrl := hr u r er
      have tl := steps_len hr ((sortI (keysOf' W)).take i)
      rw [List.length_take] at tl
      generalize hS : stepsF W ((sortI (keysOf' W)).take i) = S at tl
      have it2 : iSeq (xArgs fSorted (xCons (xOp opIx (xVar 0) (xVar 2)) xNil)) [some D, some (.ref h.length), some (.int u), o3] (h ++ [.lst (S.map pairV)]) = some (.vals ((sortI r).map .int), h ++ [.lst (S.map pairV)]) := seq_lst (args1_at (op_at rfl rfl (ix_rd (R.app _) er)) (by simp only [fSorted, seqOf, ints_of_map]))
      obtain ⟨s2, h2, e2, o3', rfl, rfl⟩ := forGo_run (g := gNm 3) (b := B2__law_steps)
        (fun j s h1 => ∃ o3, s = [some D, some (.ref h.length), some (.int u), o3] ∧ h1 = h ++ [.lst ((S ++ ((sortI r).take j).map fun v => (u, v)).map pairV)])
        ((sortI r).map .int) 0 [some D, some (.ref h.length), some (.int u), o3] (h ++ [.lst (S.map pairV)]) ⟨o3, rfl, by simp⟩ (by
        rintro j x s h1 ex ⟨o3, rfl, rfl⟩
        rw [Nat.zero_add]
        rw [List.getElem?_map] at ex
        cases ev : (sortI r)[j]? with
        | none => rw [ev] at ex; cases ex
        | some v =>
          rw [ev] at ex; cases ex
          have hj := (List.getElem?_eq_some_iff.mp ev).1
          have sl2 := (sortI_perm r).length_eq
          have ap := append_at (o := xVar 1) (e := xTup (xCons (xVar 2) (xCons (xVar 3) xNil))) (s := [some D, some (.ref h.length), some (.int u), some (.int v)]) (v := pairV (u, v)) rfl (get_last (h := h) (c := .lst ((S ++ ((sortI r).take j).map fun v => (u, v)).map pairV))) rfl get_last (by
            simp only [List.length_map, List.length_append, List.length_take]; unfold szLine; omega)
          rw [set_last] at ap
          exact ⟨_, _, .nx, _, _, rfl, expr_at ap, .inl rfl, some (.int v), rfl, by rw [take_snoc ev]; simp⟩)
      rw [Nat.zero_add, List.length_map, List.take_length] at e2
      refine ⟨_, _, .nx, _, _, rfl, (for_at it2).trans e2, .inl rfl, some (.int u), o3', rfl, ?_⟩
      rw [take_snoc eu, ← hS]
      simp [stepsF, rowsAt, er])
  rw [Nat.zero_add, List.length_map, List.take_length] at e
  have raw : g__law_steps [D] h = some (.ref h.length, h ++ [.lst ((stepsOf W).map pairV)]) := run_rt (b := b__law_steps) ((seq_nx st1).trans ((seq_nx ((for_at it).trans e)).trans (ret_at rfl)))
  exact toldF_lst raw get_last (by omega) (plain_pairs _) rfl same_plain
theorem lsteps_at (W : WL) (kl : W.length ≤ 1000) (hr : ∀ u r, rowOf W u = some r → r.length ≤ 1000) (h : MH) : (toldF g__law_steps) [.dK (websV W)] h = some (.lst ((stepsOf W).map pairV), h) := lsteps_rd W kl hr h _ (.inl rfl)

def tiesOf (W : WL) : List (Int × Int) := (stepsOf W).filter fun p => decide (p.1 < p.2)
theorem tiesOf_mem {W : WL} {u v : Int} : (u, v) ∈ tiesOf W ↔ (∃ r, rowOf W u = some r ∧ v ∈ r) ∧ u < v := by
  unfold tiesOf
  rw [List.mem_filter, mem_steps, decide_eq_true_eq]
theorem ties_lex {W : WL} (w : Web W) : (tiesOf W).Pairwise fun p q => lexLe p q = true := (steps_lex w).filter _
theorem sort_ties {W : WL} (w : Web W) : sortP (tiesOf W) = tiesOf W := sortP_eq (srtP_perm _) (srtP_sorted _) (ties_lex w)
def b__law_ties : XS := (sRet (xArgs fSorted (xCons (xLc (iSeq (xCall (toldF Ew.g__law_steps) (xCons (xVar 0) xNil))) (gTp 2 (gsCons (gNm 1) (gsCons (gNm 2) gsNil))) (xB (xOp opLt (xVar 1) (xVar 2))) (xTup (xCons (xVar 1) (xCons (xVar 2) xNil))) [1, 2]) xNil)))
def g__law_ties : Fn := runDef 3 b__law_ties
theorem d__law_ties {x0 : MV} {h : MH} {R : MV → MH → Prop} (w : Wp (b__law_ties [some x0, none, none] h) fun f _ h1 => kR f fun v => R v h1) : We (g__law_ties [x0] h) R := we_def w

theorem lties_at (W : WL) (w : Web W) (kl : W.length ≤ 1000) (hr : ∀ u r, rowOf W u = some r → r.length ≤ 1000) (h : MH) : g__law_ties [.dK (websV W)] h = some (.lst ((tiesOf W).map pairV), h) := by
  have sl : (stepsOf W).length ≤ 1000 * 1000 := by
    have a := steps_len hr (sortI (keysOf' W))
    have b := (sortI_perm (keysOf' W)).length_eq
    have c := keys_len W
    unfold stepsOf
    omega
  have it : iSeq (xCall (toldF g__law_steps) (xCons (xVar 0) xNil)) [some (.dK (websV W)), none, none] h = some (.vals ((stepsOf W).map pairV), h) := seq_lst ((call_1 rfl).trans (lsteps_at W kl hr h))
  have lc := lcGo_gen (g := gTp 2 (gsCons (gNm 1) (gsCons (gNm 2) gsNil))) (c := xB (xOp opLt (xVar 1) (xVar 2))) (e := xTup (xCons (xVar 1) (xCons (xVar 2) xNil))) (s := [some (.dK (websV W)), none, none]) (h := h) pairV (fun p => decide (p.1 < p.2)) pairV (stepsOf W) [] (by rw [List.length_nil]; unfold szLine; omega) (fun p _ => ⟨[some (.dK (websV W)), some (.int p.1), some (.int p.2)], rfl, rfl, fun _ => rfl⟩)
  rw [List.nil_append] at lc
  have st := args1_at (f := fSorted) (lc_at (own := [1, 2]) it lc) (sorted_pairs h (tiesOf W))
  rw [sort_ties w] at st
  exact run_rt (b := b__law_ties) (ret_at st)

def b_is_below : XS := (sRet (xOp opLt (xOp opMul (xOp opIx (xVar 0) (xC (.int 0))) (xOp opIx (xVar 1) (xC (.int 1)))) (xOp opMul (xOp opIx (xVar 1) (xC (.int 0))) (xOp opIx (xVar 0) (xC (.int 1))))))
def g_is_below : Fn := runDef 2 b_is_below
theorem d_is_below {x0 x1 : MV} {h : MH} {R : MV → MH → Prop} (w : Wp (b_is_below [some x0, some x1] h) fun f _ h1 => kR f fun v => R v h1) : We (g_is_below [x0, x1] h) R := we_def w


def b_tie_length : XS := (sRet (xOp opIx (xVar 0) (xTup (xCons (xArgs fMin2 (xCons (xVar 1) (xCons (xVar 2) xNil))) (xCons (xArgs fMax2 (xCons (xVar 1) (xCons (xVar 2) xNil))) xNil)))))
def g_tie_length : Fn := runDef 3 b_tie_length
theorem d_tie_length {x0 x1 x2 : MV} {h : MH} {R : MV → MH → Prop} (w : Wp (b_tie_length [some x0, some x1, some x2] h) fun f _ h1 => kR f fun v => R v h1) : We (g_tie_length [x0, x1, x2] h) R := we_def w

def W1_way_to : XT := (xB (xOp opNotNon (xOp opIx (xOp opIx (xVar 0) (xOp opIx (xVar 2) (xUn opNeg (xC (.int 1))))) (xC (.int 2))) (xC .non)))
def B1_way_to : XS := (sExpr (xAppend (xVar 2) (xOp opIx (xOp opIx (xVar 0) (xOp opIx (xVar 2) (xUn opNeg (xC (.int 1))))) (xC (.int 2)))))
def b_way_to : XSX := (seqX (ifX (xB (xOp opIsNon (xOp opIx (xVar 0) (xVar 1)) (xC .non))) (raiseX 0) (liftX sNext))
    (seqX (liftX (sAsg (xBox (xLst (xCons (xVar 1) xNil))) (gNm 2)))
    (seqX (liftX (sWhile W1_way_to B1_way_to))
    (liftX (sRet (xUn opTupRevW (xVar 2)))))))
def g_way_to : FnX := runDefX 3 b_way_to
theorem d_way_to {x0 x1 : MV} {h : MH} {R : RX → MH → Prop} (w : Wx (b_way_to [some x0, some x1, none] h) (kRX R)) : Wr (g_way_to [x0, x1] h) R := wr_def w


def b__law_before : XS := (sRet (xOp opLt (xOp opMul (xOp opIx (xVar 0) (xC (.int 0))) (xOp opIx (xVar 1) (xC (.int 1)))) (xOp opMul (xOp opIx (xVar 1) (xC (.int 0))) (xOp opIx (xVar 0) (xC (.int 1))))))
def g__law_before : Fn := runDef 2 b__law_before
theorem d__law_before {x0 x1 : MV} {h : MH} {R : MV → MH → Prop} (w : Wp (b__law_before [some x0, some x1] h) fun f _ h1 => kR f fun v => R v h1) : We (g__law_before [x0, x1] h) R := we_def w


def b__law_all : XS := (sRet (xArgs fDictP (xCons (xLcK 0 (gNm 1) cYes (xTup (xCons (xVar 1) (xCons (xC (.bl true)) xNil))) [1]) xNil)))
def g__law_all : Fn := runDef 2 b__law_all
theorem d__law_all {x0 : MV} {h : MH} {R : MV → MH → Prop} (w : Wp (b__law_all [some x0, none] h) fun f _ h1 => kR f fun v => R v h1) : We (g__law_all [x0] h) R := we_def w

def B1_nearest : XS := (sSeq (sAsg (xOp opIx (xVar 0) (xOp opIx (xVar 1) (xVar 3))) (gNm 4))
    (sIf (xAndT (xB (xOp opNotNon (xVar 4) (xC .non))) (xOrT (xB (xOp opIsNon (xVar 2) (xC .non))) (xB (xCall g_is_below (xCons (xOp opIx (xVar 4) (xC (.int 0))) (xCons (xOp opIx (xOp opIx (xVar 0) (xOp opIx (xVar 1) (xVar 2))) (xC (.int 0))) xNil)))))) (sAsg (xVar 3) (gNm 2)) sNext))
def b_nearest : XS := (sSeq (sAsg (xC .non) (gNm 2))
    (sSeq (sFor (iRange1 (xArgs fLen (xCons (xVar 1) xNil))) (gNm 3) B1_nearest)
    (sRet (xVar 2))))
def g_nearest : Fn := runDef 5 b_nearest
theorem d_nearest {x0 x1 : MV} {h : MH} {R : MV → MH → Prop} (w : Wp (b_nearest [some x0, some x1, none, none, none] h) fun f _ h1 => kR f fun v => R v h1) : We (g_nearest [x0, x1] h) R := we_def w


def b__law_sum : XS := (sRet (xCall g__law_low (xCons (xOp opAdd (xOp opMul (xOp opIx (xVar 0) (xC (.int 0))) (xOp opIx (xVar 1) (xC (.int 1)))) (xOp opMul (xOp opIx (xVar 1) (xC (.int 0))) (xOp opIx (xVar 0) (xC (.int 1))))) (xCons (xOp opMul (xOp opIx (xVar 0) (xC (.int 1))) (xOp opIx (xVar 1) (xC (.int 1)))) xNil))))
def g__law_sum : Fn := runDef 2 b__law_sum
theorem d__law_sum {x0 x1 : MV} {h : MH} {R : MV → MH → Prop} (w : Wp (b__law_sum [some x0, some x1] h) fun f _ h1 => kR f fun v => R v h1) : We (g__law_sum [x0, x1] h) R := we_def w

def B1__law_is_length : XS := (sIf (xOrT (xNotT (xB (xArgs (fIsi "int") (xCons (xVar 1) xNil)))) (xB (xArgs (fIsi "bool") (xCons (xVar 1) xNil)))) (sRet (xC (.bl false))) sNext)
def b__law_is_length : XS := (sSeq (sIf (xOrT (xNotT (xB (xArgs (fIsi "tuple") (xCons (xVar 0) xNil)))) (xB (xOp opNe (xArgs fLen (xCons (xVar 0) xNil)) (xC (.int 2))))) (sRet (xC (.bl false))) sNext)
    (sSeq (sFor (iSeq (xVar 0)) (gNm 1) B1__law_is_length)
    (sRet (xAnd (xOp opGt (xOp opIx (xVar 0) (xC (.int 1))) (xC (.int 0))) (xOp opEq (xVar 0) (xCall g__law_low (xCons (xOp opIx (xVar 0) (xC (.int 0))) (xCons (xOp opIx (xVar 0) (xC (.int 1))) xNil))))))))
def g__law_is_length : Fn := runDef 2 b__law_is_length
theorem d__law_is_length {x0 : MV} {h : MH} {R : MV → MH → Prop} (w : Wp (b__law_is_length [some x0, none] h) fun f _ h1 => kR f fun v => R v h1) : We (g__law_is_length [x0] h) R := we_def w


def b__law_refused : XS := (sSeq (sTryAsR 2 subC (exprX (toldX Ew.g_way_to) (xCons (xVar 0) (xCons (xVar 1) xNil))) 1 2 (fun c => (fun c => subC c 0) c && (fun _ => true) c))
    (sRet (xC (.bl false))))
def g__law_refused : Fn := runDef 3 b__law_refused
theorem d__law_refused {x0 x1 : MV} {h : MH} {R : MV → MH → Prop} (w : Wp (b__law_refused [some x0, some x1, none] h) fun f _ h1 => kR f fun v => R v h1) : We (g__law_refused [x0, x1] h) R := we_def w


def b_added : XS := (sRet (xCall g_fraction (xCons (xOp opAdd (xOp opMul (xOp opIx (xVar 0) (xC (.int 0))) (xOp opIx (xVar 1) (xC (.int 1)))) (xOp opMul (xOp opIx (xVar 1) (xC (.int 0))) (xOp opIx (xVar 0) (xC (.int 1))))) (xCons (xOp opMul (xOp opIx (xVar 0) (xC (.int 1))) (xOp opIx (xVar 1) (xC (.int 1)))) xNil))))
def g_added : Fn := runDef 2 b_added
theorem d_added {x0 x1 : MV} {h : MH} {R : MV → MH → Prop} (w : Wp (b_added [some x0, some x1] h) fun f _ h1 => kR f fun v => R v h1) : We (g_added [x0, x1] h) R := we_def w

def B1__law_lengths : XS := (sSeq (sAsg (xCall g__law_mixed (xCons (xOp opAdd (xVar 2) (xVar 5)) (xCons (xOp opAdd (xVar 6) (xC (.int 3))) xNil))) (gNm 7))
    (sSeq (sPut (xVar 4) (xTup (xCons (xVar 5) (xCons (xVar 6) xNil))) (xOp opIx (xLst (xCons (xCall g__law_low (xCons (xOp opMod (xVar 7) (xC (.int 1000001))) (xCons (xOp opAdd (xC (.int 1)) (xOp opMod (xOp opDiv (xVar 7) (xC (.int 1000001))) (xC (.int 60)))) xNil))) (xCons (xTup (xCons (xOp opAdd (xC (.int 1)) (xOp opMod (xVar 7) (xC (.int 2)))) (xCons (xC (.int 1)) xNil))) (xCons (xTup (xCons (xOp opMod (xVar 7) (xC (.int 3))) (xCons (xOp opSub (xC (.int 2)) (xOp opMod (xVar 7) (xC (.int 2)))) xNil))) (xCons (xTup (xCons (xC (.int 0)) (xCons (xC (.int 1)) xNil))) (xCons (xCall g__law_low (xCons (xOp opSub (xC (.int 1000000)) (xOp opMod (xVar 7) (xC (.int 2)))) (xCons (xOp opAdd (xC (.int 1)) (xOp opMod (xVar 7) (xC (.int 60)))) xNil))) xNil)))))) (xVar 3)))
    (sSeq (sIf (xB (xOp opEq (xOp opIx (xOp opIx (xVar 4) (xTup (xCons (xVar 5) (xCons (xVar 6) xNil)))) (xC (.int 0))) (xC (.int 0)))) (sPut (xVar 4) (xTup (xCons (xVar 5) (xCons (xVar 6) xNil))) (xTup (xCons (xC (.int 0)) (xCons (xC (.int 1)) xNil)))) sNext)
    (sIf (xAndT (xB (xOp opEq (xOp opIx (xOp opIx (xVar 4) (xTup (xCons (xVar 5) (xCons (xVar 6) xNil)))) (xC (.int 1))) (xC (.int 2)))) (xB (xOp opEq (xOp opMod (xOp opIx (xOp opIx (xVar 4) (xTup (xCons (xVar 5) (xCons (xVar 6) xNil)))) (xC (.int 0))) (xC (.int 2))) (xC (.int 0))))) (sPut (xVar 4) (xTup (xCons (xVar 5) (xCons (xVar 6) xNil))) (xTup (xCons (xC (.int 1)) (xCons (xC (.int 1)) xNil)))) sNext))))
def b__law_lengths : XS := (sSeq (sAsg (xCall g__law_next (xCons (xVar 0) xNil)) (gNm 2))
    (sSeq (sAsg (xOp opMod (xVar 2) (xC (.int 5))) (gNm 3))
    (sSeq (sAsg (xBox (xC (.dT []))) (gNm 4))
    (sSeq (sFor (iSeq (xCall g__law_ties (xCons (xVar 1) xNil))) (gTp 2 (gsCons (gNm 5) (gsCons (gNm 6) gsNil))) B1__law_lengths)
    (sRet (xVar 4))))))
def g__law_lengths : Fn := runDef 8 b__law_lengths
theorem d__law_lengths {x0 x1 : MV} {h : MH} {R : MV → MH → Prop} (w : Wp (b__law_lengths [some x0, some x1, none, none, none, none, none, none] h) fun f _ h1 => kR f fun v => R v h1) : We (g__law_lengths [x0, x1] h) R := we_def w

def B2__law_far : XS := (sIf (xAndT (xB (xOp opIn (xVar 6) (xVar 4))) (xB (xOp opIn (xVar 7) (xVar 3)))) (sSeq (sAsg (xCall g__law_sum (xCons (xOp opIx (xVar 4) (xVar 6)) (xCons (xOp opIx (xVar 1) (xTup (xCons (xArgs fMin2 (xCons (xVar 6) (xCons (xVar 7) xNil))) (xCons (xArgs fMax2 (xCons (xVar 6) (xCons (xVar 7) xNil))) xNil)))) xNil))) (gNm 8))
    (sIf (xOrT (xB (xOp opNotIn (xVar 7) (xVar 4))) (xB (xCall g__law_before (xCons (xVar 8) (xCons (xOp opIx (xVar 4) (xVar 7)) xNil))))) (sSeq (sPut (xVar 4) (xVar 7) (xVar 8))
    (sAsg (xC (.bl true)) (gNm 5))) sNext)) sNext)
def W1__law_far : XT := (xB (xVar 5))
def B1__law_far : XS := (sSeq (sAsg (xC (.bl false)) (gNm 5))
    (sFor (iSeq (xCall (toldF Ew.g__law_steps) (xCons (xVar 0) xNil))) (gTp 2 (gsCons (gNm 6) (gsCons (gNm 7) gsNil))) B2__law_far))
def b__law_far : XS := (sSeq (sAsg (xBox (xDisp (((xVar 2), (xTup (xCons (xC (.int 0)) (xCons (xC (.int 1)) xNil)))) :: []))) (gNm 4))
    (sSeq (sAsg (xC (.bl true)) (gNm 5))
    (sSeq (sWhile W1__law_far B1__law_far)
    (sRet (xVar 4)))))
def g__law_far : Fn := runDef 9 b__law_far
theorem d__law_far {x0 x1 x2 x3 : MV} {h : MH} {R : MV → MH → Prop} (w : Wp (b__law_far [some x0, some x1, some x2, some x3, none, none, none, none, none] h) fun f _ h1 => kR f fun v => R v h1) : We (g__law_far [x0, x1, x2, x3] h) R := we_def w


def b__law_row_shaped : XS := (sSeq (sIf (xOrT (xNotT (xB (xArgs (fIsi "tuple") (xCons (xVar 0) xNil)))) (xOrT (xB (xOp opNe (xArgs fLen (xCons (xVar 0) xNil)) (xC (.int 3)))) (xNotT (xB (xCall g__law_is_length (xCons (xOp opIx (xVar 0) (xC (.int 0))) xNil)))))) (sRet (xC (.bl false))) sNext)
    (sRet (xAnd (xArgs (fIsi "int") (xCons (xOp opIx (xVar 0) (xC (.int 1))) xNil)) (xNot (xArgs (fIsi "bool") (xCons (xOp opIx (xVar 0) (xC (.int 1))) xNil))))))
def g__law_row_shaped : Fn := runDef 1 b__law_row_shaped
theorem d__law_row_shaped {x0 : MV} {h : MH} {R : MV → MH → Prop} (w : Wp (b__law_row_shaped [some x0] h) fun f _ h1 => kR f fun v => R v h1) : We (g__law_row_shaped [x0] h) R := we_def w


def b__law_row_fits : XS := (sSeq (sAsg (xOp opIx (xVar 2) (xVar 3)) (gTp 3 (gsCons (gNm 4) (gsCons (gNm 5) (gsCons (gNm 6) gsNil)))))
    (sSeq (sIf (xOrT (xNotT (xB (xArgs (fIsi "int") (xCons (xVar 6) xNil)))) (xOrT (xB (xArgs (fIsi "bool") (xCons (xVar 6) xNil))) (xOrT (xB (xOp opNotIn (xVar 6) (xOp opIx (xVar 0) (xVar 3)))) (xB (xOp opIsNon (xOp opIx (xVar 2) (xVar 6)) (xC .non)))))) (sRet (xC (.bl false))) sNext)
    (sSeq (sAsg (xCall g__law_sum (xCons (xOp opIx (xOp opIx (xVar 2) (xVar 6)) (xC (.int 0))) (xCons (xOp opIx (xVar 1) (xTup (xCons (xArgs fMin2 (xCons (xVar 6) (xCons (xVar 3) xNil))) (xCons (xArgs fMax2 (xCons (xVar 6) (xCons (xVar 3) xNil))) xNil)))) xNil))) (gNm 7))
    (sRet (xAnd (xOp opEq (xVar 4) (xVar 7)) (xOp opEq (xVar 5) (xOp opAdd (xOp opIx (xOp opIx (xVar 2) (xVar 6)) (xC (.int 1))) (xC (.int 1)))))))))
def g__law_row_fits : Fn := runDef 8 b__law_row_fits
theorem d__law_row_fits {x0 x1 x2 x3 : MV} {h : MH} {R : MV → MH → Prop} (w : Wp (b__law_row_fits [some x0, some x1, some x2, some x3, none, none, none, none] h) fun f _ h1 => kR f fun v => R v h1) : We (g__law_row_fits [x0, x1, x2, x3] h) R := we_def w

def B1__law_leads : XS := (sSeq (sPar 8 9 (xOp opIx (xVar 5) (xOp opSub (xVar 7) (xC (.int 1)))) (xOp opIx (xVar 5) (xVar 7)))
    (sSeq (sIf (xOrT (xNotT (xB (xArgs (fIsi "int") (xCons (xVar 9) xNil)))) (xOrT (xB (xArgs (fIsi "bool") (xCons (xVar 9) xNil))) (xB (xOp opNotIn (xVar 9) (xOp opIx (xVar 0) (xVar 8)))))) (sRet (xC (.bl false))) sNext)
    (sAsg (xCall g__law_sum (xCons (xVar 6) (xCons (xOp opIx (xVar 1) (xTup (xCons (xArgs fMin2 (xCons (xVar 8) (xCons (xVar 9) xNil))) (xCons (xArgs fMax2 (xCons (xVar 8) (xCons (xVar 9) xNil))) xNil)))) xNil))) (gNm 6))))
def b__law_leads : XS := (sSeq (sAsg (xCall (okX (toldX Ew.g_way_to)) (xCons (xVar 4) (xCons (xVar 3) xNil))) (gNm 5))
    (sSeq (sIf (xOrT (xNotT (xB (xArgs (fIsi "tuple") (xCons (xVar 5) xNil)))) (xOrT (xB (xOp opEq (xArgs fLen (xCons (xVar 5) xNil)) (xC (.int 0)))) (xOrT (xB (xOp opNe (xOp opIx (xVar 5) (xC (.int 0))) (xVar 2))) (xB (xOp opNe (xOp opIx (xVar 5) (xUn opNeg (xC (.int 1)))) (xVar 3)))))) (sRet (xC (.bl false))) sNext)
    (sSeq (sAsg (xTup (xCons (xC (.int 0)) (xCons (xC (.int 1)) xNil))) (gNm 6))
    (sSeq (sFor (iRange2 (xC (.int 1)) (xArgs fLen (xCons (xVar 5) xNil))) (gNm 7) B1__law_leads)
    (sRet (xAnd (xOp opEq (xVar 6) (xOp opIx (xOp opIx (xVar 4) (xVar 3)) (xC (.int 0)))) (xOp opEq (xArgs fLen (xCons (xVar 5) xNil)) (xOp opAdd (xOp opIx (xOp opIx (xVar 4) (xVar 3)) (xC (.int 1))) (xC (.int 1))))))))))
def g__law_leads : Fn := runDef 10 b__law_leads
theorem d__law_leads {x0 x1 x2 x3 x4 : MV} {h : MH} {R : MV → MH → Prop} (w : Wp (b__law_leads [some x0, some x1, some x2, some x3, some x4, none, none, none, none, none] h) fun f _ h1 => kR f fun v => R v h1) : We (g__law_leads [x0, x1, x2, x3, x4] h) R := we_def w

def B1_reach_from : XS := (sSeq (sAsg (xCall g_added (xCons (xVar 4) (xCons (xCall g_tie_length (xCons (xVar 1) (xCons (xVar 3) (xCons (xVar 7) xNil)))) xNil))) (gNm 8))
    (sIf (xOrT (xB (xOp opIsNon (xOp opIx (xVar 2) (xVar 7)) (xC .non))) (xB (xCall g_is_below (xCons (xVar 8) (xCons (xOp opIx (xOp opIx (xVar 2) (xVar 7)) (xC (.int 0))) xNil))))) (sPut (xVar 2) (xVar 7) (xTup (xCons (xVar 8) (xCons (xOp opAdd (xVar 5) (xC (.int 1))) (xCons (xVar 3) xNil))))) sNext))
def b_reach_from : XS := (sSeq (sAsg (xOp opIx (xVar 2) (xVar 3)) (gTp 3 (gsCons (gNm 4) (gsCons (gNm 5) (gsCons (gNm 6) gsNil)))))
    (sFor (iSeq (xOp opIx (xVar 0) (xVar 3))) (gNm 7) B1_reach_from))
def g_reach_from : Fn := runDef 9 b_reach_from
theorem d_reach_from {x0 x1 x2 x3 : MV} {h : MH} {R : MV → MH → Prop} (w : Wp (b_reach_from [some x0, some x1, some x2, some x3, none, none, none, none, none] h) fun f _ h1 => kR f fun v => R v h1) : We (g_reach_from [x0, x1, x2, x3] h) R := we_def w

def B1__law_is_way_paper : XS := (sSeq (sIf (xOrT (xNotT (xB (xArgs (fIsi "int") (xCons (xVar 4) xNil)))) (xOrT (xB (xArgs (fIsi "bool") (xCons (xVar 4) xNil))) (xB (xOp opNotIn (xVar 4) (xVar 0))))) (sRet (xC (.bl false))) sNext)
    (sIf (xAndT (xB (xOp opNotNon (xOp opIx (xVar 3) (xVar 4)) (xC .non))) (xNotT (xB (xCall g__law_row_shaped (xCons (xOp opIx (xVar 3) (xVar 4)) xNil))))) (sRet (xC (.bl false))) sNext))
def B2__law_is_way_paper : XS := (sSeq (sIf (xAndT (xB (xOp opNotIn (xVar 4) (xVar 5))) (xB (xOp opNotNon (xOp opIx (xVar 3) (xVar 4)) (xC .non)))) (sRet (xC (.bl false))) sNext)
    (sSeq (sIf (xAndT (xB (xOp opIn (xVar 4) (xVar 5))) (xOrT (xB (xOp opIsNon (xOp opIx (xVar 3) (xVar 4)) (xC .non))) (xB (xOp opNe (xOp opIx (xOp opIx (xVar 3) (xVar 4)) (xC (.int 0))) (xOp opIx (xVar 5) (xVar 4)))))) (sRet (xC (.bl false))) sNext)
    (sIf (xAndT (xB (xOp opIn (xVar 4) (xVar 5))) (xAndT (xB (xOp opNe (xVar 4) (xVar 2))) (xNotT (xB (xCall g__law_row_fits (xCons (xVar 0) (xCons (xVar 1) (xCons (xVar 3) (xCons (xVar 4) xNil))))))))) (sRet (xC (.bl false))) sNext)))
def b__law_is_way_paper : XS := (sSeq (sIf (xOrT (xNotT (xB (xArgs (fIsi "dict") (xCons (xVar 3) xNil)))) (xB (xOp opNe (xArgs fLen (xCons (xVar 3) xNil)) (xArgs fLen (xCons (xVar 0) xNil))))) (sRet (xC (.bl false))) sNext)
    (sSeq (sForK 3 (gNm 4) B1__law_is_way_paper)
    (sSeq (sIf (xB (xOp opNe (xOp opIx (xVar 3) (xVar 2)) (xTup (xCons (xTup (xCons (xC (.int 0)) (xCons (xC (.int 1)) xNil))) (xCons (xC (.int 0)) (xCons (xC .non) xNil)))))) (sRet (xC (.bl false))) sNext)
    (sSeq (sAsg (xCall (toldF Ew.g__law_far) (xCons (xVar 0) (xCons (xVar 1) (xCons (xVar 2) (xCons (xCall (toldV Ew.g__law_all) (xCons (xVar 0) xNil)) xNil))))) (gNm 5))
    (sSeq (sForK 0 (gNm 4) B2__law_is_way_paper)
    (sRet (xC (.bl true))))))))
def g__law_is_way_paper : Fn := runDef 6 b__law_is_way_paper
theorem d__law_is_way_paper {x0 x1 x2 x3 : MV} {h : MH} {R : MV → MH → Prop} (w : Wp (b__law_is_way_paper [some x0, some x1, some x2, some x3, none, none] h) fun f _ h1 => kR f fun v => R v h1) : We (g__law_is_way_paper [x0, x1, x2, x3] h) R := we_def w

def B1_ways : XS := (sPut (xVar 3) (xVar 4) (xC .non))
def W2_ways : XT := (xB (xOp opNotNon (xVar 6) (xC .non)))
def B2_ways : XS := (sSeq (sAsg (xPopAt (xVar 5) (xVar 6)) (gNm 4))
    (sSeq (sExpr (xCall g_reach_from (xCons (xVar 0) (xCons (xVar 1) (xCons (xVar 3) (xCons (xVar 4) xNil))))))
    (sAsg (xCall g_nearest (xCons (xVar 3) (xCons (xVar 5) xNil))) (gNm 6))))
def b_ways : XS := (sSeq (sAsg (xBox (xC (.dK []))) (gNm 3))
    (sSeq (sForK 0 (gNm 4) B1_ways)
    (sSeq (sPut (xVar 3) (xVar 2) (xTup (xCons (xC (.row [.int 0, .int 1])) (xCons (xC (.int 0)) (xCons (xC .non) xNil)))))
    (sSeq (sAsg (xBox (xUn fKeysS (xVar 0))) (gNm 5))
    (sSeq (sAsg (xCall g_nearest (xCons (xVar 3) (xCons (xVar 5) xNil))) (gNm 6))
    (sSeq (sWhile W2_ways B2_ways)
    (sRet (xVar 3))))))))
def g_ways : Fn := runDef 7 b_ways
theorem d_ways {x0 x1 x2 : MV} {h : MH} {R : MV → MH → Prop} (w : Wp (b_ways [some x0, some x1, some x2, none, none, none, none] h) fun f _ h1 => kR f fun v => R v h1) : We (g_ways [x0, x1, x2] h) R := we_def w

def B1__law_good : XS := (sIf (xB (xOp opIsNon (xOp opIx (xVar 3) (xVar 5)) (xC .non))) (sIf (xNotT (xB (xCall g__law_refused (xCons (xVar 3) (xCons (xVar 5) xNil))))) (sRet (xC (.bl false))) sNext) (sIf (xNotT (xB (xCall (toldV Ew.g__law_leads) (xCons (xVar 0) (xCons (xVar 1) (xCons (xVar 2) (xCons (xVar 5) (xCons (xVar 3) xNil)))))))) (sRet (xC (.bl false))) sNext))
def b__law_good : XS := (sSeq (sAsg (xBox (xCall (toldF Ew.g_ways) (xCons (xVar 0) (xCons (xVar 1) (xCons (xVar 2) xNil))))) (gNm 3))
    (sSeq (sIf (xNotT (xB (xCall g__law_is_way_paper (xCons (xVar 0) (xCons (xVar 1) (xCons (xVar 2) (xCons (xVar 3) xNil))))))) (sRet (xC (.bl false))) sNext)
    (sSeq (sAsg (xArgs fDictD (xCons (xVar 3) xNil)) (gNm 4))
    (sSeq (sForK 0 (gNm 5) B1__law_good)
    (sSeq (sIf (xB (xOp opNe (xVar 3) (xVar 4))) (sRet (xC (.bl false))) sNext)
    (sSeq (sPut (xVar 3) (xVar 2) (xC .non))
    (sSeq (sPut (xVar 3) (xUn opNeg (xC (.int 1))) (xTup (xCons (xC (.int 0)) (xCons (xC (.int 1)) xNil))))
    (sRet (xOp opEq (xCall (toldF Ew.g_ways) (xCons (xVar 0) (xCons (xVar 1) (xCons (xVar 2) xNil)))) (xVar 4))))))))))
def g__law_good : Fn := runDef 6 b__law_good
theorem d__law_good {x0 x1 x2 : MV} {h : MH} {R : MV → MH → Prop} (w : Wp (b__law_good [some x0, some x1, some x2, none, none, none] h) fun f _ h1 => kR f fun v => R v h1) : We (g__law_good [x0, x1, x2] h) R := we_def w

def B2_law : XS := (sIf (xNotT (xB (xCall g__law_good (xCons (xVar 3) (xCons (xVar 4) (xCons (xOp opIx (xVar 7) (xOp opMod (xCall g__law_next (xCons (xVar 1) xNil)) (xArgs fLen (xCons (xVar 7) xNil)))) xNil)))))) (sRet (xC (.bl false))) sNext)
def B1_law : XS := (sSeq (sAsg (xCall (toldV Ew.g__law_flat) (xCons (xVar 1) (xCons (xOp opIx (xLst (xCons (xC (.int 7)) (xCons (xC (.int 12)) xNil))) (xOp opMod (xCall g__law_next (xCons (xVar 1) xNil)) (xC (.int 2)))) xNil))) (gNm 3))
    (sSeq (sIf (xB (xOp opEq (xVar 3) (xC (.dK [])))) (sAsg (xDisp (((xOp opMod (xCall g__law_next (xCons (xVar 1) xNil)) (xC (.int 1000))), (xTupR xNil)) :: [])) (gNm 3)) sNext)
    (sSeq (sAsg (xCall (toldF Ew.g__law_lengths) (xCons (xVar 1) (xCons (xVar 3) xNil))) (gNm 4))
    (sSeq (sPar 5 6 (xCall (toldF Ew.g__law_twin) (xCons (xVar 3) xNil)) (xArgs fDictT (xCons (xVar 4) xNil)))
    (sSeq (sAsg (xUn fKeysS (xVar 3)) (gNm 7))
    (sSeq (sFor (iRange1 (xC (.int 2))) (gNm 8) B2_law)
    (sIf (xOrT (xB (xOp opNe (xVar 3) (xVar 5))) (xB (xOp opNeDT (xVar 4) (xVar 6)))) (sRet (xC (.bl false))) sNext)))))))
def b_law : XS := (sSeq (sAsg (xCall g__law_draws (xCons (xVar 0) xNil)) (gNm 1))
    (sSeq (sFor (iRange1 (xArgs fMin2 (xCons (xOp opAdd (xC (.int 1)) (xOp opDiv (xArgs fLen (xCons (xVar 1) xNil)) (xC (.int 40)))) (xCons (xC (.int 4)) xNil)))) (gNm 2) B1_law)
    (sRet (xC (.bl true)))))
def g_law : Fn := runDef 9 b_law
theorem d_law {x0 : MV} {h : MH} {R : MV → MH → Prop} (w : Wp (b_law [some x0, none, none, none, none, none, none, none, none] h) fun f _ h1 => kR f fun v => R v h1) : We (g_law [x0] h) R := we_def w

theorem sub_len' {α : Type} [DecidableEq α] : ∀ {l k : List α}, l.Nodup → (∀ x ∈ l, x ∈ k) → l.length ≤ k.length
  | [], k, _, _ => Nat.zero_le _
  | x :: l, k, nd, h => by
    obtain ⟨h1, h2⟩ := List.nodup_cons.mp nd
    have p := (List.perm_cons_erase (h x List.mem_cons_self)).length_eq
    have := sub_len' (k := k.erase x) h2 (fun y hy => (List.mem_erase_of_ne (fun z => h1 (by rw [← z]; exact hy))).mpr (h y (List.mem_cons_of_mem _ hy)))
    simp only [List.length_cons] at p ⊢
    omega
theorem rows_sym {W : WL} (w : Web W) {u v : Int} (h : v ∈ rowsAt W u) : u ∈ rowsAt W v := by
  unfold rowsAt at h ⊢
  cases e : rowOf W u with
  | none => rw [e] at h; simp at h
  | some r =>
    rw [e] at h
    obtain ⟨r', e', hu⟩ := w.sym u v r e h
    rw [e']; exact hu
theorem rows_key {W : WL} (w : Web W) {u v : Int} (h : v ∈ rowsAt W u) : v ∈ keysOf' W ∧ u ∈ keysOf' W := by
  have a : ∀ {u v : Int}, v ∈ rowsAt W u → u ∈ keysOf' W := fun {u v} h => by
    unfold rowsAt at h
    cases e : rowOf W u with
    | none => rw [e] at h; simp at h
    | some r => exact rowOf_mem e
  exact ⟨a (rows_sym w h), a h⟩
theorem at_m1 (xs : List MV) (x : MV) : atM (xs ++ [x]) (-1) = some x := by
  unfold atM ixM
  rw [if_neg (by decide), if_pos (by rw [List.length_append]; simp; omega)]
  rw [show ((-1 : Int) + ((xs ++ [x]).length : Nat)).toNat = xs.length by rw [List.length_append]; simp; omega]
  simp
theorem toldX_val {g : FnX} {args : List MV} {h t : MH} {v : MV} (e : g args h = some (.val v, h ++ t)) (hp : plainV v = true) : toldX g args h = some (.val v, h) := by
  have e0 : okX g args h = some (v, h ++ t) := by simp only [okX, e]
  have e1 : toldA (okX g) args h = some (v, h) := toldA_v e0 hp rfl same_plain
  simp only [toldX, e1]
/-! ### fractions whose denominators divide one number -/
theorem low_mul {a b c : Int} (hb : 0 < b) (hc : 0 < c) : lowOf (a * c) (b * c) = lowOf a b := by
  unfold lowOf
  have e : ((Int.gcd (a * c) (b * c) : Nat) : Int) = (Int.gcd a b : Nat) * c := by
    rw [Int.gcd_mul_right]
    have : ((c.natAbs : Nat) : Int) = c := Int.natAbs_of_nonneg (by omega)
    rw [Int.natCast_mul, this]
  have g : 0 < ((Int.gcd a b : Nat) : Int) := by
    have := Int.gcd_pos_of_ne_zero_right a (show b ≠ 0 by omega)
    omega
  rw [e, Int.mul_ediv_mul_of_pos_left _ _ hc, Int.mul_ediv_mul_of_pos_left _ _ hc]
/-- what a fraction in lowest terms is -/
theorem low_spec {a b : Int} (hb : 0 < b) : ∃ g : Int, 0 < g ∧ (lowOf a b).1 * g = a ∧ (lowOf a b).2 * g = b ∧ 0 < (lowOf a b).2 := by
  have g : 0 < ((Int.gcd a b : Nat) : Int) := by
    have := Int.gcd_pos_of_ne_zero_right a (show b ≠ 0 by omega)
    omega
  have h1 : (lowOf a b).1 * ((Int.gcd a b : Nat) : Int) = a := Int.ediv_mul_cancel (Int.gcd_dvd_left a b)
  have h2 : (lowOf a b).2 * ((Int.gcd a b : Nat) : Int) = b := Int.ediv_mul_cancel (Int.gcd_dvd_right a b)
  refine ⟨_, g, h1, h2, ?_⟩
  rcases Int.lt_or_le 0 (lowOf a b).2 with q | q
  · exact q
  · have := Int.mul_nonpos_of_nonpos_of_nonneg q (Int.le_of_lt g)
    omega
theorem low_cross {a b c d : Int} (hb : 0 < b) (hd : 0 < d) (e : a * d = c * b) : lowOf a b = lowOf c d := by
  rw [← low_mul hb hd, ← low_mul hd hb, e, Int.mul_comm b d]
/-- the least common multiple of 1 to 60 -/
def M60 : Int := 9690712164777231700912800
theorem M60_pos : 0 < M60 := by decide
theorem M60_dvd {b : Int} (h1 : 1 ≤ b) (h2 : b ≤ 60) : ∃ c, 0 < c ∧ b * c = M60 := by
  have h : ∀ n : Fin 61, 1 ≤ n.val → M60 % (n.val : Int) = 0 := by decide
  obtain ⟨n, rfl⟩ := Int.eq_ofNat_of_zero_le (show 0 ≤ b by omega)
  have h0 := h ⟨n, by omega⟩ (by simp only; omega)
  have e := Int.mul_ediv_add_emod M60 (n : Int)
  simp only at h0
  rw [h0, Int.add_zero] at e
  refine ⟨M60 / (n : Int), ?_, e⟩
  rcases Int.lt_or_le 0 (M60 / (n : Int)) with q | q
  · exact q
  · have := Int.mul_nonpos_of_nonneg_of_nonpos (show (0 : Int) ≤ (n : Int) by omega) q
    have := M60_pos
    omega
/-- so many parts of M60 -/
def fr (k : Int) : Int × Int := lowOf k M60
theorem fr_of (a : Int) {b : Int} (h1 : 1 ≤ b) (h2 : b ≤ 60) : ∃ c, 0 < c ∧ b * c = M60 ∧ lowOf a b = fr (a * c) := by
  obtain ⟨c, hc, e⟩ := M60_dvd h1 h2
  refine ⟨c, hc, e, ?_⟩
  unfold fr
  rw [← e, low_mul (by omega) hc]
theorem fr_spec (k : Int) : ∃ g : Int, 0 < g ∧ (fr k).1 * g = k ∧ (fr k).2 * g = M60 ∧ 0 < (fr k).2 := low_spec M60_pos
theorem mul_pos' {a b : Int} (ha : 0 < a) (hb : 0 < b) : 0 < a * b := Int.mul_pos ha hb
theorem fr_sum (j k : Int) : lowOf ((fr j).1 * (fr k).2 + (fr k).1 * (fr j).2) ((fr j).2 * (fr k).2) = fr (j + k) := by
  obtain ⟨g, g0, a1, a2, a3⟩ := fr_spec j
  obtain ⟨d, d0, b1, b2, b3⟩ := fr_spec k
  generalize (fr j).1 = x1 at *
  generalize (fr j).2 = x2 at *
  generalize (fr k).1 = y1 at *
  generalize (fr k).2 = y2 at *
  unfold fr
  refine low_cross (mul_pos' a3 b3) M60_pos ?_
  have e : (j + k) * (x2 * y2) * (g * d) = (x1 * y2 + y1 * x2) * M60 * (g * d) := by
    rw [← a1, ← b1]
    have h1 : x2 * g = y2 * d := by rw [a2, b2]
    have h2 : M60 = x2 * g := a2.symm
    rw [h2]
    grind
  have gd : g * d ≠ 0 := by
    have := mul_pos' g0 d0
    omega
  exact (Int.eq_of_mul_eq_mul_right gd e).symm
theorem fr_lt (j k : Int) : (fr j).1 * (fr k).2 < (fr k).1 * (fr j).2 ↔ j < k := by
  obtain ⟨g, g0, a1, a2, a3⟩ := fr_spec j
  obtain ⟨d, d0, b1, b2, b3⟩ := fr_spec k
  generalize (fr j).1 = x1 at *
  generalize (fr j).2 = x2 at *
  generalize (fr k).1 = y1 at *
  generalize (fr k).2 = y2 at *
  have h : x1 * y2 * (g * d) = j * M60 := by rw [← a1, ← b2]; grind
  have h' : y1 * x2 * (g * d) = k * M60 := by rw [← b1, ← a2]; grind
  have gd := mul_pos' g0 d0
  constructor
  · intro q
    have := Int.mul_lt_mul_of_pos_right q gd
    rw [h, h'] at this
    exact Int.lt_of_mul_lt_mul_right this (Int.le_of_lt M60_pos)
  · intro q
    have := Int.mul_lt_mul_of_pos_right q M60_pos
    rw [← h, ← h'] at this
    exact Int.lt_of_mul_lt_mul_right this (Int.le_of_lt gd)
theorem fr_inj {j k : Int} (e : fr j = fr k) : j = k := by
  have h1 := fr_lt j k
  have h2 := fr_lt k j
  rw [e] at h1 h2
  have : ¬ j < k := fun z => by have := h1.mpr z; omega
  have : ¬ k < j := fun z => by have := h2.mpr z; omega
  omega
theorem fr_zero : fr 0 = (0, 1) := by decide
theorem fr_bd (k : Int) : (fr k).2 ≤ M60 ∧ -(if k < 0 then -k else k) ≤ (fr k).1 ∧ (fr k).1 ≤ (if k < 0 then -k else k) := by
  obtain ⟨g, g0, a1, a2, a3⟩ := fr_spec k
  generalize (fr k).1 = x1 at *
  generalize (fr k).2 = x2 at *
  refine ⟨?_, ?_, ?_⟩
  · have : x2 * 1 ≤ x2 * g := Int.mul_le_mul_of_nonneg_left (by omega) (by omega)
    omega
  · rcases Int.lt_or_le x1 0 with q | q
    · have : -x1 * 1 ≤ -x1 * g := Int.mul_le_mul_of_nonneg_left (by omega) (by omega)
      rw [Int.neg_mul x1 g] at this
      split <;> omega
    · split <;> omega
  · rcases Int.lt_or_le x1 0 with q | q
    · split <;> omega
    · have : x1 * 1 ≤ x1 * g := Int.mul_le_mul_of_nonneg_left (by omega) q
      split <;> omega
/-! ### how far: the law's own rounds -/
theorem rows_ne {W : WL} (w : Web W) {u v : Int} (h : v ∈ rowsAt W u) : u ≠ v := fun z => by
  unfold rowsAt at h
  cases e : rowOf W u with
  | none => rw [e] at h; simp at h
  | some r =>
    rw [e] at h
    exact (w.row u r e).2 (by rw [z] at e ⊢; exact h)
structure FarI (W : WL) (ℓ : Int → Int → Int) (B : Int) (s : Int) (n : Nat) (ks : List Int) (f : Int → Int) (t : Int → Nat) : Prop where
  nd : ks.Nodup
  sub : ∀ p ∈ ks, p ∈ keysOf' W
  si : s ∈ ks
  s0 : f s = 0
  nn : ∀ p ∈ ks, 0 ≤ f p
  bd : ∀ p ∈ ks, f p ≤ ((ks.length : Int) - 1) * B
  tm : ∀ p ∈ ks, t p < n
  pr : ∀ p ∈ ks, p ≠ s → ∃ u ∈ ks, p ∈ rowsAt W u ∧ (f u + ℓ u p < f p ∨ (f u + ℓ u p = f p ∧ t u < t p))
def updI {α : Type} (f : Int → α) (v : Int) (x : α) : Int → α := fun p => if p = v then x else f p
theorem FarI.start {W : WL} {ℓ : Int → Int → Int} {B s : Int} (hs : s ∈ keysOf' W) : FarI W ℓ B s 1 [s] (fun _ => 0) (fun _ => 0) :=
  ⟨by simp, by simpa using hs, by simp, rfl, fun _ _ => Int.le_refl _, fun p hp => by simp, fun _ _ => by omega, fun p hp h => absurd (List.mem_singleton.mp hp) h⟩
theorem FarI.more {W : WL} (w : Web W) {ℓ : Int → Int → Int} {B s : Int} (b0 : 0 ≤ B) (l0 : ∀ u v, v ∈ rowsAt W u → 0 ≤ ℓ u v ∧ ℓ u v ≤ B) {n : Nat} {ks : List Int} {f : Int → Int} {t : Int → Nat} (g : FarI W ℓ B s n ks f t) {u v : Int} (hu : u ∈ ks) (hv : v ∈ rowsAt W u) (nv : v ∉ ks) :
    FarI W ℓ B s (n + 1) (ks ++ [v]) (updI f v (f u + ℓ u v)) (updI t v n) := by
  obtain ⟨l1, l2⟩ := l0 u v hv
  have same : ∀ p ∈ ks, updI f v (f u + ℓ u v) p = f p ∧ updI t v n p = t p := fun p hp => by
    have : p ≠ v := fun z => nv (z ▸ hp)
    simp [updI, this]
  have newf : updI f v (f u + ℓ u v) v = f u + ℓ u v ∧ updI t v n v = n := by simp [updI]
  have lk : (((ks ++ [v]).length : Nat) : Int) - 1 = (ks.length : Int) := by rw [List.length_append, List.length_singleton]; omega
  have mB : ((ks.length : Int) - 1) * B + B = (ks.length : Int) * B := by rw [Int.sub_mul]; omega
  refine ⟨List.nodup_append.mpr ⟨g.nd, by simp, fun a ha b hb e => nv (by rw [← List.mem_singleton.mp hb, ← e]; exact ha)⟩, fun p hp => ?_, List.mem_append_left _ g.si, by rw [(same s g.si).1]; exact g.s0, fun p hp => ?_, fun p hp => ?_, fun p hp => ?_, fun p hp ps => ?_⟩
  · rcases List.mem_append.mp hp with h | h
    · exact g.sub p h
    · rw [List.mem_singleton.mp h]; exact (rows_key w hv).1
  · rcases List.mem_append.mp hp with h | h
    · rw [(same p h).1]; exact g.nn p h
    · rw [List.mem_singleton.mp h, newf.1]
      have := g.nn u hu
      omega
  · rw [lk]
    rcases List.mem_append.mp hp with h | h
    · rw [(same p h).1]
      have := g.bd p h
      omega
    · rw [List.mem_singleton.mp h, newf.1]
      have := g.bd u hu
      omega
  · rcases List.mem_append.mp hp with h | h
    · rw [(same p h).2]
      have := g.tm p h
      omega
    · rw [List.mem_singleton.mp h, newf.2]
      omega
  · rcases List.mem_append.mp hp with h | h
    · obtain ⟨x, hx, hpx, c⟩ := g.pr p h ps
      exact ⟨x, List.mem_append_left _ hx, hpx, by rw [(same x hx).1, (same p h).1, (same x hx).2, (same p h).2]; exact c⟩
    · have := List.mem_singleton.mp h
      subst this
      exact ⟨u, List.mem_append_left _ hu, hv, .inr ⟨by rw [(same u hu).1, newf.1], by rw [(same u hu).2, newf.2]; exact g.tm u hu⟩⟩
theorem FarI.less {W : WL} (w : Web W) {ℓ : Int → Int → Int} {B s : Int} (l0 : ∀ u v, v ∈ rowsAt W u → 0 ≤ ℓ u v ∧ ℓ u v ≤ B) {n : Nat} {ks : List Int} {f : Int → Int} {t : Int → Nat} (g : FarI W ℓ B s n ks f t) {u v : Int} (hu : u ∈ ks) (hv : v ∈ rowsAt W u) (kv : v ∈ ks) (lt : f u + ℓ u v < f v) :
    FarI W ℓ B s (n + 1) ks (updI f v (f u + ℓ u v)) (updI t v n) := by
  obtain ⟨l1, l2⟩ := l0 u v hv
  have uv : u ≠ v := rows_ne w hv
  have sv : s ≠ v := fun z => by
    have h1 := g.s0
    have h2 := g.nn u hu
    rw [z] at h1
    omega
  have same : ∀ p, p ≠ v → updI f v (f u + ℓ u v) p = f p ∧ updI t v n p = t p := fun p h => by simp [updI, h]
  have newf : updI f v (f u + ℓ u v) v = f u + ℓ u v ∧ updI t v n v = n := by simp [updI]
  refine ⟨g.nd, g.sub, g.si, by rw [(same s sv).1]; exact g.s0, fun p hp => ?_, fun p hp => ?_, fun p hp => ?_, fun p hp ps => ?_⟩
  · by_cases q : p = v
    · rw [q, newf.1]
      have := g.nn u hu
      omega
    · rw [(same p q).1]; exact g.nn p hp
  · by_cases q : p = v
    · rw [q, newf.1]
      have := g.bd v kv
      omega
    · rw [(same p q).1]; exact g.bd p hp
  · by_cases q : p = v
    · rw [q, newf.2]; omega
    · rw [(same p q).2]
      have := g.tm p hp
      omega
  · by_cases q : p = v
    · subst q
      exact ⟨u, hu, hv, .inr ⟨by rw [(same u uv).1, newf.1], by rw [(same u uv).2, newf.2]; exact g.tm u hu⟩⟩
    · obtain ⟨x, hx, hpx, c⟩ := g.pr p hp ps
      by_cases q2 : x = v
      · subst q2
        refine ⟨x, hx, hpx, .inl ?_⟩
        rw [newf.1, (same p q).1]
        rcases c with c | ⟨c, _⟩ <;> omega
      · exact ⟨x, hx, hpx, by rw [(same x q2).1, (same p q).1, (same x q2).2, (same p q).2]; exact c⟩
/-- how much is left to do -/
def farM (N : Nat) (B : Nat) (ks : List Int) (f : Int → Int) : Nat := (N - ks.length) * (N * B + 1) + ((ks.map f).sum).toNat
theorem sum_upd {f : Int → Int} {v x : Int} : ∀ {ks : List Int}, ks.Nodup → v ∈ ks → (ks.map (updI f v x)).sum = (ks.map f).sum - f v + x
  | a :: ks, nd, h => by
    obtain ⟨n1, n2⟩ := List.nodup_cons.mp nd
    rw [List.map_cons, List.map_cons, List.sum_cons, List.sum_cons]
    by_cases q : a = v
    · subst q
      have e : ks.map (updI f a x) = ks.map f := List.map_congr_left fun p hp => by
        have : p ≠ a := fun z => n1 (z ▸ hp)
        simp [updI, this]
      rw [e]
      simp only [updI, if_true]
      omega
    · have hv : v ∈ ks := (List.mem_cons.mp h).resolve_left fun z => q z.symm
      rw [sum_upd n2 hv]
      simp only [updI, if_neg q]
      omega
theorem sum_nn {f : Int → Int} : ∀ {ks : List Int}, (∀ p ∈ ks, 0 ≤ f p) → 0 ≤ (ks.map f).sum
  | [], _ => by simp
  | a :: ks, h => by
    rw [List.map_cons, List.sum_cons]
    have := sum_nn (f := f) fun p hp => h p (List.mem_cons_of_mem _ hp)
    have := h a (by simp)
    omega
theorem FarI.m_more {W : WL} (w : Web W) {ℓ : Int → Int → Int} {B : Nat} {s : Int} (l0 : ∀ u v, v ∈ rowsAt W u → 0 ≤ ℓ u v ∧ ℓ u v ≤ (B : Int)) {n : Nat} {ks : List Int} {f : Int → Int} {t : Int → Nat} (g : FarI W ℓ B s n ks f t) {u v : Int} (hu : u ∈ ks) (hv : v ∈ rowsAt W u) (nv : v ∉ ks) :
    farM W.length B (ks ++ [v]) (updI f v (f u + ℓ u v)) < farM W.length B ks f := by
  have g2 := g.more w (by omega) l0 hu hv nv
  have l1 := sub_len' g2.nd g2.sub
  rw [keys_len, List.length_append, List.length_singleton] at l1
  have b1 := g2.bd v (by simp)
  have e1 : updI f v (f u + ℓ u v) v = f u + ℓ u v := by simp [updI]
  rw [e1, List.length_append, List.length_singleton] at b1
  have e2 : ((ks ++ [v]).map (updI f v (f u + ℓ u v))).sum = (ks.map f).sum + (f u + ℓ u v) := by
    rw [List.map_append, List.sum_append]
    have : ks.map (updI f v (f u + ℓ u v)) = ks.map f := List.map_congr_left fun p hp => by
      have : p ≠ v := fun z => nv (z ▸ hp)
      simp [updI, this]
    rw [this]
    simp [e1]
  have s0 := sum_nn g.nn
  have fu := g.nn u hu
  obtain ⟨l3, l4⟩ := l0 u v hv
  unfold farM
  rw [e2, List.length_append, List.length_singleton]
  obtain ⟨m, hm⟩ : ∃ m, W.length - ks.length = m + 1 := ⟨W.length - ks.length - 1, by omega⟩
  rw [hm, show W.length - (ks.length + 1) = m by omega, Nat.add_mul, Nat.one_mul]
  have b2 : f u + ℓ u v ≤ ((W.length * B : Nat) : Int) := by
    have h1 : (((ks.length + 1 : Nat) : Int) - 1) * (B : Int) = ((ks.length * B : Nat) : Int) := by
      rw [show (((ks.length + 1 : Nat) : Int) - 1) = (ks.length : Int) by omega, Int.natCast_mul]
    rw [h1] at b1
    have h2 : ks.length * B ≤ W.length * B := Nat.mul_le_mul_right _ (by omega)
    omega
  omega
theorem FarI.m_less {W : WL} {ℓ : Int → Int → Int} {B : Nat} {s : Int} (l0 : ∀ u v, v ∈ rowsAt W u → 0 ≤ ℓ u v ∧ ℓ u v ≤ (B : Int)) {n : Nat} {ks : List Int} {f : Int → Int} {t : Int → Nat} (g : FarI W ℓ B s n ks f t) {u v : Int} (hu : u ∈ ks) (hv : v ∈ rowsAt W u) (kv : v ∈ ks) (lt : f u + ℓ u v < f v) :
    farM W.length B ks (updI f v (f u + ℓ u v)) < farM W.length B ks f := by
  unfold farM
  rw [sum_upd g.nd kv]
  have := g.nn u hu
  obtain ⟨l3, l4⟩ := l0 u v hv
  have s1 : f v ≤ (ks.map f).sum := by
    have e := sum_upd (f := f) (x := 0) g.nd kv
    have : 0 ≤ (ks.map (updI f v 0)).sum := sum_nn fun p hp => by
      by_cases q : p = v
      · simp [updI, q]
      · simp [updI, q]; exact g.nn p hp
    omega
  omega
/-- what the rounds come to -/
structure FarOk (W : WL) (ℓ : Int → Int → Int) (B : Int) (s : Int) (ks : List Int) (f : Int → Int) : Prop where
  nd : ks.Nodup
  sub : ∀ p ∈ ks, p ∈ keysOf' W
  si : s ∈ ks
  s0 : f s = 0
  nn : ∀ p ∈ ks, 0 ≤ f p
  bd : ∀ p ∈ ks, f p ≤ (W.length : Int) * B
  cl : ∀ u ∈ ks, ∀ v ∈ rowsAt W u, v ∈ ks ∧ f v ≤ f u + ℓ u v
  ti : ∃ t : Int → Nat, ∀ p ∈ ks, p ≠ s → ∃ u ∈ ks, p ∈ rowsAt W u ∧ f u + ℓ u p = f p ∧ t u < t p
theorem FarI.done {W : WL} {ℓ : Int → Int → Int} {B s : Int} (b0 : 0 ≤ B) {n : Nat} {ks : List Int} {f : Int → Int} {t : Int → Nat} (g : FarI W ℓ B s n ks f t) (cl : ∀ u ∈ ks, ∀ v ∈ rowsAt W u, v ∈ ks ∧ f v ≤ f u + ℓ u v) : FarOk W ℓ B s ks f := by
  have l1 := sub_len' g.nd g.sub
  rw [keys_len] at l1
  refine ⟨g.nd, g.sub, g.si, g.s0, g.nn, fun p hp => ?_, cl, t, fun p hp ps => ?_⟩
  · have h1 := g.bd p hp
    have h2 : ((ks.length : Int) - 1) * B ≤ (W.length : Int) * B := Int.mul_le_mul_of_nonneg_right (by omega) b0
    omega
  · obtain ⟨u, hu, hpu, c⟩ := g.pr p hp ps
    obtain ⟨_, c2⟩ := cl u hu p hpu
    rcases c with c | c
    · omega
    · exact ⟨u, hu, hpu, c⟩
/-! ### the fractions' operations -/
def Bk (k : Int) : Prop := 0 ≤ k ∧ k ≤ 1000000000000000000000000000000000
theorem fr_fine {k : Int} (b : Bk k) : (0 ≤ (fr k).1 ∧ (fr k).1 ≤ 1000000000000000000000000000000000) ∧ (0 < (fr k).2 ∧ (fr k).2 ≤ 9690712164777231700912800) := by
  obtain ⟨h1, h2, h3⟩ := fr_bd k
  obtain ⟨g, g0, a1, a2, a3⟩ := fr_spec k
  have k0 : ¬ k < 0 := by have := b.1; omega
  rw [if_neg k0] at h2 h3
  have b2 := b.2
  have := b.1
  unfold M60 at h1
  refine ⟨⟨?_, by omega⟩, a3, h1⟩
  rcases Int.lt_or_le (fr k).1 0 with q | q
  · have := Int.mul_neg_of_neg_of_pos q g0
    omega
  · exact q
theorem mul_bd {a b A B : Int} (a0 : 0 ≤ a) (a1 : a ≤ A) (b0 : 0 ≤ b) (b1 : b ≤ B) : 0 ≤ a * b ∧ a * b ≤ A * B := ⟨Int.mul_nonneg a0 b0, Int.mul_le_mul a1 b1 b0 (by omega)⟩
theorem fr_gcd (k : Int) : Int.gcd (fr k).1 (fr k).2 = 1 := by
  have g : 0 < Int.gcd k M60 := Int.gcd_pos_of_ne_zero_right k (by decide)
  unfold fr lowOf
  exact Int.gcd_ediv_gcd_ediv_gcd_of_ne_zero_right (by decide)
section
variable {j k : Int} (J : Bk j) (K : Bk k) (h : MH)
include J K
theorem sum_at : g__law_sum [frV (fr j), frV (fr k)] h = some (frV (fr (j + k)), h) := by
  obtain ⟨⟨_, _⟩, _, _⟩ := fr_fine J
  obtain ⟨⟨_, _⟩, _, _⟩ := fr_fine K
  have e := low_at ((fr j).1 * (fr k).2 + (fr k).1 * (fr j).2) ((fr j).2 * (fr k).2) h (mul_pos' (by assumption) (by assumption)) (by
    have := (mul_bd (a := (fr j).2) (b := (fr k).2) (A := 9690712164777231700912800) (B := 9690712164777231700912800) (by omega) (by omega) (by omega) (by omega)).2
    omega)
  rw [fr_sum] at e
  unfold g__law_sum b__law_sum
  simp (discharger := omega) only [sSeq, sAsg, sIf, sRet, sRetN, sExpr, sNext, sPar, sPar3, sBk, sCt, sFor, sPut, gNm, gTp, gsCons, gsNil, xVar, xC, xOp, xUn, xCons, xNil, xArgs, xCall, xTup, xLst, xBox, boxM, xIf, xAnd, xOr, xNot, xB, xAndT, xOrT, xNotT, xAppend, xPop, xPopAt, xExtend, xExtendT, xSlL, xPart, xNoPart, iSeq, iRange1, iRange2, cYes, seqOf, listOf, isLstC, runDef, sBegin, List.map_cons, List.map_nil, List.length_cons, List.length_nil, List.getElem?_cons_zero, List.getElem?_cons_succ, List.getElem?_nil, List.set_cons_zero, List.set_cons_succ, List.cons_append, List.nil_append, List.append_nil, Nat.sub_self, Nat.zero_add, Nat.reduceAdd, Nat.reduceSub, Nat.add_one_sub_one, List.replicate_zero, List.replicate_succ, Option.map_some, if_true, if_false, decide_true, decide_false, Bool.not_true, Bool.not_false, Bool.true_or, Bool.false_or, Bool.or_true, Bool.or_false, Bool.true_and, Bool.false_and, Bool.and_true, Bool.and_false, beq_self_eq_true, opAdd, opSub, opNeg, opLt, opLe, opGt, opGe, opIx, fLen, fAbs, fMax2, fMin2, fIsi, tyN, fList, fTuple, fDictP, opCat, opCatT, lstC, fKeys, fKeysS, fSorted, xPairs, xDisp, xUpdate, sForK, gLp, fKeysT, opRevT, iEnumT, keyOf, keyV, opIsBl, opNotBl, dictK, st_NoneType_bool, st_NoneType_int, st_NoneType_str, st_NoneType_tuple, st_NoneType_list, st_NoneType_dict, st_bool_bool, st_bool_int, st_bool_str, st_bool_tuple, st_bool_list, st_bool_dict, st_int_bool, st_int_int, st_int_str, st_int_tuple, st_int_list, st_int_dict, st_str_bool, st_str_int, st_str_str, st_str_tuple, st_str_list, st_str_dict, st_tuple_bool, st_tuple_int, st_tuple_str, st_tuple_tuple, st_tuple_list, st_tuple_dict, st_list_bool, st_list_int, st_list_str, st_list_tuple, st_list_list, st_list_dict, st_dict_bool, st_dict_int, st_dict_str, st_dict_tuple, st_dict_list, st_dict_dict, frV, at_0, at_1, mul_ok, e]
theorem before_at : g__law_before [frV (fr j), frV (fr k)] h = some (.bl (decide (j < k)), h) := by
  obtain ⟨⟨_, _⟩, _, _⟩ := fr_fine J
  obtain ⟨⟨_, _⟩, _, _⟩ := fr_fine K
  have e : decide (j < k) = decide ((fr j).1 * (fr k).2 < (fr k).1 * (fr j).2) := by rw [decide_eq_decide]; exact (fr_lt j k).symm
  rw [e]
  unfold g__law_before b__law_before
  simp (discharger := omega) only [sSeq, sAsg, sIf, sRet, sRetN, sExpr, sNext, sPar, sPar3, sBk, sCt, sFor, sPut, gNm, gTp, gsCons, gsNil, xVar, xC, xOp, xUn, xCons, xNil, xArgs, xCall, xTup, xLst, xBox, boxM, xIf, xAnd, xOr, xNot, xB, xAndT, xOrT, xNotT, xAppend, xPop, xPopAt, xExtend, xExtendT, xSlL, xPart, xNoPart, iSeq, iRange1, iRange2, cYes, seqOf, listOf, isLstC, runDef, sBegin, List.map_cons, List.map_nil, List.length_cons, List.length_nil, List.getElem?_cons_zero, List.getElem?_cons_succ, List.getElem?_nil, List.set_cons_zero, List.set_cons_succ, List.cons_append, List.nil_append, List.append_nil, Nat.sub_self, Nat.zero_add, Nat.reduceAdd, Nat.reduceSub, Nat.add_one_sub_one, List.replicate_zero, List.replicate_succ, Option.map_some, if_true, if_false, decide_true, decide_false, Bool.not_true, Bool.not_false, Bool.true_or, Bool.false_or, Bool.or_true, Bool.or_false, Bool.true_and, Bool.false_and, Bool.and_true, Bool.and_false, beq_self_eq_true, opAdd, opSub, opNeg, opLt, opLe, opGt, opGe, opIx, fLen, fAbs, fMax2, fMin2, fIsi, tyN, fList, fTuple, fDictP, opCat, opCatT, lstC, fKeys, fKeysS, fSorted, xPairs, xDisp, xUpdate, sForK, gLp, fKeysT, opRevT, iEnumT, keyOf, keyV, opIsBl, opNotBl, dictK, st_NoneType_bool, st_NoneType_int, st_NoneType_str, st_NoneType_tuple, st_NoneType_list, st_NoneType_dict, st_bool_bool, st_bool_int, st_bool_str, st_bool_tuple, st_bool_list, st_bool_dict, st_int_bool, st_int_int, st_int_str, st_int_tuple, st_int_list, st_int_dict, st_str_bool, st_str_int, st_str_str, st_str_tuple, st_str_list, st_str_dict, st_tuple_bool, st_tuple_int, st_tuple_str, st_tuple_tuple, st_tuple_list, st_tuple_dict, st_list_bool, st_list_int, st_list_str, st_list_tuple, st_list_list, st_list_dict, st_dict_bool, st_dict_int, st_dict_str, st_dict_tuple, st_dict_list, st_dict_dict, frV, at_0, at_1, mul_ok]
end
/-! ### lengths of ties -/
theorem getK_mapG {κ α : Type} [DecidableEq κ] [DecidableEq α] (key : α → κ) (inj : ∀ a b, key a = key b → a = b) (f : α → MV) : ∀ (xs : List α) (p : α), getK (xs.map fun a => (key a, f a)) (key p) = if p ∈ xs then some (f p) else none
  | [], p => rfl
  | a :: xs, p => by
    have ih := getK_mapG key inj f xs p
    unfold getK at ih ⊢
    rw [List.map_cons, List.find?_cons]
    by_cases q : a = p
    · subst q
      simp
    · rw [decide_eq_false (fun z => q (inj _ _ z))]
      rw [ih]
      have : ¬ p = a := fun z => q z.symm
      simp [this]
def lkey (p : Int × Int) : List MK := [.inl p.1, .inl p.2]
theorem lkey_inj (a b : Int × Int) (e : lkey a = lkey b) : a = b := by
  unfold lkey at e
  simp only [List.cons.injEq, Sum.inl.injEq, and_true] at e
  exact Prod.ext e.1 e.2
def lenT (T : List (Int × Int)) (L : Int × Int → Int) : List (List MK × MV) := T.map fun p => (lkey p, frV (fr (L p)))
theorem getK_lenT (T : List (Int × Int)) (L : Int × Int → Int) (p : Int × Int) : getK (lenT T L) (lkey p) = if p ∈ T then some (frV (fr (L p))) else none := (getK_mapG lkey lkey_inj (fun p => frV (fr (L p))) T p).trans (by by_cases q : p ∈ T <;> simp [q])
theorem put_newG {κ : Type} [DecidableEq κ] {xs : List (κ × MV)} {k : κ} {v : MV} (n : getK xs k = none) : putM xs k v = xs ++ [(k, v)] := by
  have hany : (xs.any fun kv => decide (kv.1 = k)) = false := by
    rw [List.any_eq_false]
    intro kv hm e
    unfold getK at n
    rw [Option.map_eq_none_iff, List.find?_eq_none] at n
    exact n kv hm e
  unfold putM
  rw [hany]
  rfl
theorem put_lastG {κ : Type} [DecidableEq κ] {xs : List (κ × MV)} {k : κ} {v w : MV} (n : getK xs k = none) : putM (xs ++ [(k, v)]) k w = xs ++ [(k, w)] := by
  have hn : ∀ kv ∈ xs, kv.1 ≠ k := fun kv hm e => by
    unfold getK at n
    rw [Option.map_eq_none_iff, List.find?_eq_none] at n
    exact n kv hm (by simpa using e)
  have hany : ((xs ++ [(k, v)]).any fun kv => decide (kv.1 = k)) = true := by simp
  unfold putM
  rw [if_pos hany, List.map_append]
  congr 1
  · have : ∀ kv ∈ xs, (if kv.1 = k then (kv.1, w) else kv) = kv := fun kv hm => if_neg (hn kv hm)
    exact (List.map_congr_left this).trans (List.map_id _)
  · simp
theorem get_lastG {κ : Type} [DecidableEq κ] {xs : List (κ × MV)} {k : κ} {v : MV} (n : getK xs k = none) : getK (xs ++ [(k, v)]) k = some v := by
  unfold getK at n ⊢
  rw [Option.map_eq_none_iff] at n
  rw [List.find?_append, n]
  simp
theorem ix_dT {h : MH} {D : MV} {kvs : List (List MK × MV)} {p : Int × Int} {v : MV} (hs : seqOf h D = none) (hd : dictT h D = some kvs) (e : getK kvs (lkey p) = some v) : opIx h D (.tup [.int p.1, .int p.2]) = some v := by
  unfold opIx
  have : lookM h D (.tup [.int p.1, .int p.2]) = some (some v) := by
    simp only [lookM, hd, keysOf, keyOf]
    exact congrArg some e
  simp only [hs, this]
theorem ix_dTv {h : MH} {T : List (Int × Int)} {L : Int × Int → Int} {p : Int × Int} (hp : p ∈ T) : opIx h (.dT (lenT T L)) (.tup [.int p.1, .int p.2]) = some (frV (fr (L p))) := ix_dT (kvs := lenT T L) rfl rfl (by rw [getK_lenT, if_pos hp])
theorem st_dT {h : MH} {m : Nat} {kvs : List (List MK × MV)} {p : Int × Int} {v : MV} (e : h[m]? = some (.dT kvs)) (hz : kvs.length < 16777216) : stM h (.ref m) (.tup [.int p.1, .int p.2]) v = some (h.set m (.dT (putM kvs (lkey p) v))) := by
  simp only [stM, e, keysOf, keyOf]
  rw [if_pos (show kvs.length < szLine from hz)]
  rfl
/-- what the two looks behind a drawn length make of it -/
def nrm (p : Int × Int) : Int × Int :=
  let a := if p.1 = 0 then (0, 1) else p
  if a.2 = 2 ∧ a.1 % 2 = 0 then (1, 1) else a
def BL : Int := 9690712164777231700912800000000
def Nice (p : Int × Int) : Prop := ∃ k, 0 ≤ k ∧ k ≤ BL ∧ nrm p = fr k
theorem fr_one : fr M60 = (1, 1) := by decide
theorem nice_fr {k : Int} (h0 : 0 ≤ k) (h1 : k ≤ BL) : Nice (fr k) := by
  unfold Nice nrm
  by_cases z : (fr k).1 = 0
  · rw [if_pos z]
    exact ⟨0, by decide, by decide, by rw [fr_zero]; decide⟩
  · rw [if_neg z]
    dsimp only
    split
    · exact ⟨M60, by decide, by decide, fr_one.symm⟩
    · exact ⟨k, h0, h1, rfl⟩
theorem nice_low {a b : Int} (a0 : 0 ≤ a) (a1 : a ≤ 1000000) (b0 : 1 ≤ b) (b1 : b ≤ 60) : Nice (lowOf a b) := by
  obtain ⟨c, c0, e, q⟩ := fr_of a b0 b1
  rw [q]
  have cm : 1 * c ≤ b * c := Int.mul_le_mul_of_nonneg_right b0 (by omega)
  rw [e] at cm
  have hm := mul_bd a0 a1 (by omega : 0 ≤ c) (by omega : c ≤ M60)
  exact nice_fr hm.1 (by unfold M60 at hm; unfold BL; omega)
theorem nice_few : Nice (1, 1) ∧ Nice (2, 1) ∧ Nice (0, 1) ∧ Nice (0, 2) ∧ Nice (1, 2) ∧ Nice (2, 2) := by
  refine ⟨⟨M60, ?_⟩, ⟨M60 * 2, ?_⟩, ⟨0, ?_⟩, ⟨0, ?_⟩, ⟨M60 / 2, ?_⟩, ⟨M60, ?_⟩⟩ <;> decide
theorem plain_lenT : ∀ (T : List (Int × Int)) (L : Int × Int → Int), plainT (lenT T L) = true
  | [], _ => rfl
  | p :: T, L => by
    have := plain_lenT T L
    unfold lenT at this ⊢
    simp only [List.map_cons, plainT]
    rw [this]
    rfl
structure LenOk (W : WL) (L : Int × Int → Int) : Prop where
  bd : ∀ p, 0 ≤ L p ∧ L p ≤ BL
theorem pick5 {R : MV → Prop} {a b c d e : MV} {i : Int} (h0 : 0 ≤ i) (h1 : i < 5) (qa : R a) (qb : R b) (qc : R c) (qd : R d) (qe : R e) : Wv (atM [a, b, c, d, e] i) R := by
  have : i = 0 ∨ i = 1 ∨ i = 2 ∨ i = 3 ∨ i = 4 := by omega
  rcases this with rfl | rfl | rfl | rfl | rfl
  · exact ⟨_, rfl, qa⟩
  · exact ⟨_, rfl, qb⟩
  · exact ⟨_, rfl, qc⟩
  · exact ⟨_, rfl, qd⟩
  · exact ⟨_, rfl, qe⟩
theorem lengths_at (h : MH) (d : Nat) (ds : List Int) (e : h[d]? = some (.lst (ds.map .int))) (hD : Drawn ds) (W : WL) (w : Web W) (nW : Names (keysOf' W)) (kl : W.length ≤ 200) (hr : ∀ u r, rowOf W u = some r → r.length ≤ 1000) :
    ∃ L, (∀ p, 0 ≤ L p ∧ L p ≤ BL) ∧ (toldF g__law_lengths) [.ref d, .dK (websV W)] h = some (.dT (lenT (tiesOf W) L), h.set d (.lst (ds.tail.map .int))) := by
  have hd : d < h.length := (List.getElem?_eq_some_iff.mp e).1
  have en := next_at ds d h e
  obtain ⟨n0, n1⟩ := hD.head
  generalize ds.headD 0 = n at n0 n1 en
  have lh : (h.set d (.lst (ds.tail.map .int))).length = h.length := List.length_set ..
  have cl : ∀ (i : Nat) (c : MC), (h.set d (.lst (ds.tail.map .int)))[i]? = some c → h[i]? = some c ∨ plainC c = true := set_plain (plain_ints _)
  generalize h.set d (.lst (ds.tail.map .int)) = g at en lh cl
  have ndT : (tiesOf W).Nodup := (steps_nodup w).sublist List.filter_sublist
  have lT : (tiesOf W).length ≤ 200 * 1000 := by
    have a := steps_len hr (sortI (keysOf' W))
    have b := (sortI_perm (keysOf' W)).length_eq
    have c := keys_len W
    have : (tiesOf W).length ≤ (stepsOf W).length := List.length_filter_le _ _
    unfold stepsOf at this
    have : (sortI (keysOf' W)).length * 1000 ≤ 200 * 1000 := Nat.mul_le_mul_right _ (by omega)
    omega
  have key : ∀ p ∈ tiesOf W, (0 ≤ p.1 ∧ p.1 < 1000) ∧ 0 ≤ p.2 ∧ p.2 < 1000 := fun p hp => by
    obtain ⟨⟨r, er, hv⟩, _⟩ := (tiesOf_mem (u := p.1) (v := p.2)).mp hp
    have hv' : p.2 ∈ rowsAt W p.1 := by unfold rowsAt; rw [er]; exact hv
    obtain ⟨k2, k1⟩ := rows_key w hv'
    exact ⟨nW.2 _ k1, nW.2 _ k2⟩
  have raw : We (g__law_lengths [.ref d, .dK (websV W)] h) fun r h' => r = .ref g.length ∧ ∃ L, (∀ p, 0 ≤ L p ∧ L p ≤ BL) ∧ h' = g ++ [.dT (lenT (tiesOf W) L)] := by
    refine d__law_lengths ?_
    unfold b__law_lengths
    show wp
    show wr en
    show wr (lties_at W w (by omega) hr _)
    refine wfor (fun i s h1 => ∃ L o5 o6 o7, (∀ p, 0 ≤ L p ∧ L p ≤ BL) ∧ s = [some (.ref d), some (.dK (websV W)), some (.int n), some (.int (n % 5)), some (.ref g.length), o5, o6, o7] ∧ h1 = g ++ [.dT (lenT ((tiesOf W).take i) L)]) ⟨fun _ => 0, none, none, none, fun _ => ⟨Int.le_refl _, (by decide : (0 : Int) ≤ BL)⟩, rfl, rfl⟩ ?_ ?_
    · rintro i x s h1 ex ⟨L, o5, o6, o7, hL, rfl, rfl⟩
      rw [List.getElem?_map] at ex
      cases ep : (tiesOf W)[i]? with
      | none => rw [ep] at ex; cases ex
      | some p =>
        rw [ep] at ex; cases ex
        obtain ⟨⟨u0, u1⟩, v0, v1⟩ := key p (List.mem_of_getElem? ep)
        have ni : p ∉ (tiesOf W).take i := fun z => by
          have := take_snoc ep
          have nd2 : ((tiesOf W).take (i + 1)).Nodup := ndT.sublist (List.take_sublist _ _)
          rw [this, List.nodup_append] at nd2
          exact nd2.2.2 p z p (by simp) rfl
        have gn : getK (lenT ((tiesOf W).take i) L) (lkey p) = none := by rw [getK_lenT, if_neg ni]
        have ll : (lenT ((tiesOf W).take i) L).length ≤ 200000 := by unfold lenT; rw [List.length_map, List.length_take]; omega
        have fin : ∀ q : Int × Int, Nice q → ∃ L', (∀ p, 0 ≤ L' p ∧ L' p ≤ BL) ∧ lenT ((tiesOf W).take i) L ++ [(lkey p, frV (nrm q))] = lenT ((tiesOf W).take (i + 1)) L' := fun q ⟨k, k0, k1, ek⟩ => by
          refine ⟨fun x => if x = p then k else L x, fun x => ?_, ?_⟩
          · dsimp only
            split
            · exact ⟨k0, k1⟩
            · exact hL x
          · rw [take_snoc ep]
            unfold lenT
            rw [List.map_append]
            congr 1
            · refine List.map_congr_left fun x hx => ?_
              have : x ≠ p := fun z => ni (z ▸ hx)
              simp only [if_neg this]
            · simp [ek]
        have mi := mix_rng (n + p.1) (p.2 + 3)
        have em := mixed_at (n + p.1) (p.2 + 3) (g ++ [.dT (lenT ((tiesOf W).take i) L)]) (by omega) (by omega)
        generalize mixOf (n + p.1) (p.2 + 3) = one at mi em
        obtain ⟨m0, m1⟩ := mi
        have lo1 := low_at (one % 1000001) (1 + one / 1000001 % 60) (g ++ [.dT (lenT ((tiesOf W).take i) L)]) (by omega) (by omega)
        have lo2 := low_at (1000000 - one % 2) (1 + one % 60) (g ++ [.dT (lenT ((tiesOf W).take i) L)]) (by omega) (by omega)
        have ni1 := nice_low (a := one % 1000001) (b := 1 + one / 1000001 % 60) (by omega) (by omega) (by omega) (by omega)
        have ni2 := nice_low (a := 1000000 - one % 2) (b := 1 + one % 60) (by omega) (by omega) (by omega) (by omega)
        generalize lowOf (one % 1000001) (1 + one / 1000001 % 60) = q1 at lo1 ni1
        generalize lowOf (1000000 - one % 2) (1 + one % 60) = q2 at lo2 ni2
        obtain ⟨f1, f2, f3, f4, f5, f6⟩ := nice_few
        have ni3 : Nice (1 + one % 2, 1) := by
          have : one % 2 = 0 ∨ one % 2 = 1 := by omega
          rcases this with z | z <;> rw [z]
          · exact f1
          · exact f2
        have ni4 : Nice (one % 3, 2 - one % 2) := by
          have a : one % 2 = 0 ∨ one % 2 = 1 := by omega
          have b : one % 3 = 0 ∨ one % 3 = 1 ∨ one % 3 = 2 := by omega
          rcases a with z | z <;> rcases b with y | y | y <;> rw [z, y] <;> assumption
        have st : ∀ v, stM (g ++ [.dT (lenT ((tiesOf W).take i) L)]) (.ref g.length) (.tup [.int p.1, .int p.2]) v = some (g ++ [.dT (lenT ((tiesOf W).take i) L ++ [(lkey p, v)])]) := fun v => by
          rw [st_dT (p := p) (v := v) (get_last (h := g) (c := .dT (lenT ((tiesOf W).take i) L))) (by omega), set_last, put_newG gn]
        have st2 : ∀ v x, stM (g ++ [.dT (lenT ((tiesOf W).take i) L ++ [(lkey p, x)])]) (.ref g.length) (.tup [.int p.1, .int p.2]) v = some (g ++ [.dT (lenT ((tiesOf W).take i) L ++ [(lkey p, v)])]) := fun v x => by
          rw [st_dT (p := p) (v := v) (get_last (h := g) (c := .dT (lenT ((tiesOf W).take i) L ++ [(lkey p, x)]))) (by rw [List.length_append, List.length_singleton]; omega), set_last, put_lastG gn]
        have ixx : ∀ x, opIx (g ++ [.dT (lenT ((tiesOf W).take i) L ++ [(lkey p, x)])]) (.ref g.length) (.tup [.int p.1, .int p.2]) = some x := fun x => by
          refine ix_dT (p := p) (v := x) ?_ (kvs := lenT ((tiesOf W).take i) L ++ [(lkey p, x)]) ?_ (get_lastG gn)
          · simp only [seqOf, listOf, get_last]
          · simp only [dictT, get_last]
        have rest : ∀ q : Int × Int, Nice q → Wp (sSeq (sIf (xB (xOp opEq (xOp opIx (xOp opIx (xVar 4) (xTup (xCons (xVar 5) (xCons (xVar 6) xNil)))) (xC (.int 0))) (xC (.int 0)))) (sPut (xVar 4) (xTup (xCons (xVar 5) (xCons (xVar 6) xNil))) (xTup (xCons (xC (.int 0)) (xCons (xC (.int 1)) xNil)))) sNext)
    (sIf (xAndT (xB (xOp opEq (xOp opIx (xOp opIx (xVar 4) (xTup (xCons (xVar 5) (xCons (xVar 6) xNil)))) (xC (.int 1))) (xC (.int 2)))) (xB (xOp opEq (xOp opMod (xOp opIx (xOp opIx (xVar 4) (xTup (xCons (xVar 5) (xCons (xVar 6) xNil)))) (xC (.int 0))) (xC (.int 2))) (xC (.int 0))))) (sPut (xVar 4) (xTup (xCons (xVar 5) (xCons (xVar 6) xNil))) (xTup (xCons (xC (.int 1)) (xCons (xC (.int 1)) xNil)))) sNext) [some (.ref d), some (.dK (websV W)), some (.int n), some (.int (n % 5)), some (.ref g.length), some (.int p.1), some (.int p.2), some (.int one)] (g ++ [.dT (lenT ((tiesOf W).take i) L ++ [(lkey p, frV q)])])) fun f s2 h2 => ((f = .nx ∨ f = .ct) ∧ ∃ L o5 o6 o7, (∀ p, 0 ≤ L p ∧ L p ≤ BL) ∧ s2 = [some (.ref d), some (.dK (websV W)), some (.int n), some (.int (n % 5)), some (.ref g.length), o5, o6, o7] ∧ h2 = g ++ [.dT (lenT ((tiesOf W).take (i + 1)) L)]) := fun q nq => by
          obtain ⟨L', hL', eL'⟩ := fin q nq
          have two : ∀ y : Int × Int, nrm q = (if y.2 = 2 ∧ y.1 % 2 = 0 then (1, 1) else y) → Wp ((sIf (xAndT (xB (xOp opEq (xOp opIx (xOp opIx (xVar 4) (xTup (xCons (xVar 5) (xCons (xVar 6) xNil)))) (xC (.int 1))) (xC (.int 2)))) (xB (xOp opEq (xOp opMod (xOp opIx (xOp opIx (xVar 4) (xTup (xCons (xVar 5) (xCons (xVar 6) xNil)))) (xC (.int 0))) (xC (.int 2))) (xC (.int 0))))) (sPut (xVar 4) (xTup (xCons (xVar 5) (xCons (xVar 6) xNil))) (xTup (xCons (xC (.int 1)) (xCons (xC (.int 1)) xNil)))) sNext) [some (.ref d), some (.dK (websV W)), some (.int n), some (.int (n % 5)), some (.ref g.length), some (.int p.1), some (.int p.2), some (.int one)] (g ++ [.dT (lenT ((tiesOf W).take i) L ++ [(lkey p, frV y)])])) fun f s2 h2 => ((f = .nx ∨ f = .ct) ∧ ∃ L o5 o6 o7, (∀ p, 0 ≤ L p ∧ L p ≤ BL) ∧ s2 = [some (.ref d), some (.dK (websV W)), some (.int n), some (.int (n % 5)), some (.ref g.length), o5, o6, o7] ∧ h2 = g ++ [.dT (lenT ((tiesOf W).take (i + 1)) L)]) := fun y ey => by
            show wp
            show wr (ixx (frV y))
            unfold frV
            show wp
            by_cases z2 : y.2 = 2
            · rw [decide_eq_true z2]
              show wp
              show wr (ixx (frV y))
              unfold frV
              show wp
              by_cases z3 : y.1 % 2 = 0
              · rw [decide_eq_true z3]
                show wp
                show wr (st2 (.tup [.int 1, .int 1]) (frV y))
                rw [if_pos ⟨z2, z3⟩] at ey
                refine ⟨.inl rfl, L', _, _, _, hL', rfl, ?_⟩
                rw [← eL', ey]; rfl
              · rw [decide_eq_false z3]
                show wp
                rw [if_neg (fun z => z3 z.2)] at ey
                refine ⟨.inl rfl, L', _, _, _, hL', rfl, ?_⟩
                rw [← eL', ey]; rfl
            · rw [decide_eq_false z2]
              show wp
              rw [if_neg (fun z => z2 z.1)] at ey
              refine ⟨.inl rfl, L', _, _, _, hL', rfl, ?_⟩
              rw [← eL', ey]; rfl
          show wp
          show wr (ixx (frV q))
          unfold frV
          show wp
          by_cases z1 : q.1 = 0
          · rw [decide_eq_true z1]
            show wp
            refine wm_of (st2 (.tup [.int 0, .int 1]) (frV q)) ?_
            exact kS_nx (two (0, 1) (by unfold nrm; rw [if_pos z1]))
          · rw [decide_eq_false z1]
            exact kB_f (wp_next (kS_nx (two q (by unfold nrm; rw [if_neg z1]))))
        unfold B1__law_lengths
        show wp
        show wr em
        show wr lo1
        show wr lo2
        refine pick5 (by omega) (by omega) ?_ ?_ ?_ ?_ ?_
        · show wp
          refine wm_of (st (frV q1)) ?_
          exact kS_nx (rest q1 ni1)
        · show wp
          refine wm_of (st (frV (1 + one % 2, 1))) ?_
          exact kS_nx (rest _ ni3)
        · show wp
          refine wm_of (st (frV (one % 3, 2 - one % 2))) ?_
          exact kS_nx (rest _ ni4)
        · show wp
          refine wm_of (st (frV (0, 1))) ?_
          exact kS_nx (rest _ f3)
        · show wp
          refine wm_of (st (frV q2)) ?_
          exact kS_nx (rest q2 ni2)
    · rintro s h1 ⟨L, o5, o6, o7, hL, rfl, rfl⟩
      rw [List.length_map, List.take_length]
      show wp
      exact ⟨rfl, L, hL, rfl⟩
  obtain ⟨r, h', er, rfl, L, hL, rfl⟩ := raw
  exact ⟨L, hL, toldF_dT er get_last (by omega) (plain_lenT _ _) lh cl⟩
/-! ### how far: the machine -/
theorem all_at (W : WL) (nd : (keysOf' W).Nodup) (kl : W.length ≤ 1000) (h : MH) : (toldV g__law_all) [.dK (websV W)] h = some (.dK (mapV (keysOf' W) fun _ => .bl true), h) := by
  have lk := keys_len W
  have lc := lcGo_gen (g := gNm 1) (c := cYes) (e := xTup (xCons (xVar 1) (xCons (xC (.bl true)) xNil))) (s := [some (.dK (websV W)), none]) (h := h) MV.int (fun _ => true) (fun p => .tup [.int p, .bl true]) (keysOf' W) [] (by rw [List.length_nil]; unfold szLine; omega) (fun p _ => ⟨[some (.dK (websV W)), some (.int p)], rfl, rfl, fun _ => rfl⟩)
  rw [List.nil_append, List.filter_eq_self.mpr (fun _ _ => rfl), ← keysV_webs] at lc
  have lk2 := lcK_at (n := 0) (own := [1]) (s := [some (.dK (websV W)), none]) (kvs := websV W) rfl lc
  have fd : fDictP h [.lst ((keysOf' W).map fun p => .tup [.int p, .bl true])] = some (.dK (mapV (keysOf' W) fun _ => .bl true)) := by
    have m := merge_mapV (fun _ => .bl true) (keysOf' W) [] nd (by simp)
    simp only [fDictP, listOf, pairs_mapV, Option.map_some]
    rw [show mapV [] (fun _ => MV.bl true) = [] from rfl] at m
    rw [m, List.nil_append]
  have raw : g__law_all [.dK (websV W)] h = some (.dK (mapV (keysOf' W) fun _ => .bl true), h) := run_rt (b := b__law_all) (ret_at (args1_at lk2 fd))
  exact toldV_at (t := []) (by rw [List.append_nil]; exact raw) (by simp only [plainV]; exact plain_mapV (fun _ => rfl) _) rfl same_plain
def symL (L : Int × Int → Int) (u v : Int) : Int := L (if v < u then v else u, if v > u then v else u)
theorem tie_in {W : WL} (w : Web W) {u v : Int} (h : v ∈ rowsAt W u) : ((if v < u then v else u, if v > u then v else u) : Int × Int) ∈ tiesOf W := by
  have ne := rows_ne w h
  have h2 := rows_sym w h
  have row : ∀ {u v : Int}, v ∈ rowsAt W u → ∃ r, rowOf W u = some r ∧ v ∈ r := fun {u v} h => by
    unfold rowsAt at h
    cases e : rowOf W u with
    | none => rw [e] at h; simp at h
    | some r => rw [e] at h; exact ⟨r, rfl, h⟩
  rcases Int.lt_or_le v u with q | q
  · rw [if_pos q, if_neg (by omega)]
    exact tiesOf_mem.mpr ⟨row h2, q⟩
  · rw [if_neg (by omega), if_pos (by omega)]
    exact tiesOf_mem.mpr ⟨row h, by omega⟩
theorem ix_len {W : WL} (w : Web W) {L : Int × Int → Int} {u v : Int} (hv : v ∈ rowsAt W u) (h : MH) : opIx h (.dT (lenT (tiesOf W) L)) (.tup [.int (if v < u then v else u), .int (if v > u then v else u)]) = some (frV (fr (symL L u v))) :=
  ix_dTv (p := (if v < u then v else u, if v > u then v else u)) (tie_in w hv)
theorem tlen_at {W : WL} (w : Web W) {L : Int × Int → Int} {u v : Int} (hv : v ∈ rowsAt W u) (h : MH) : g_tie_length [.dT (lenT (tiesOf W) L), .int u, .int v] h = some (frV (fr (symL L u v)), h) := by
  refine we_eq (d_tie_length ?_)
  unfold b_tie_length
  show wp
  show wr (ix_len w hv h)
  exact ⟨rfl, rfl⟩
/-- the dict of how far -/
def farV (ks : List Int) (f : Int → Int) : List (MK × MV) := mapV ks fun p => frV (fr (f p))
theorem farV_more {ks : List Int} {f : Int → Int} {v x : Int} (nv : v ∉ ks) : farV ks f ++ [(.inl v, frV (fr x))] = farV (ks ++ [v]) (updI f v x) := by
  unfold farV mapV
  rw [List.map_append]
  congr 1
  · refine List.map_congr_left fun p hp => ?_
    have : p ≠ v := fun z => nv (z ▸ hp)
    simp only [updI, if_neg this]
  · simp [updI]
theorem farV_less {ks : List Int} {f : Int → Int} {v x : Int} (hv : v ∈ ks) : putM (farV ks f) (.inl v) (frV (fr x)) = farV ks (updI f v x) := by
  unfold farV mapV putM
  have hany : ((ks.map fun p => ((Sum.inl p : MK), frV (fr (f p)))).any fun kv => decide (kv.1 = .inl v)) = true := by
    rw [List.any_eq_true]
    exact ⟨(.inl v, frV (fr (f v))), List.mem_map.mpr ⟨v, hv, rfl⟩, by simp⟩
  rw [if_pos hany, List.map_map]
  refine List.map_congr_left fun p _ => ?_
  simp only [Function.comp_apply, Sum.inl.injEq, updI]
  split <;> rfl
theorem put_far {h : MH} {m : Nat} {ks : List Int} {f : Int → Int} {v x : Int} (e : h[m]? = some (.dK (farV ks f))) (hz : ks.length < 16777216) (hv : v ∈ ks) : stM h (.ref m) (.int v) (frV (fr x)) = some (h.set m (.dK (farV ks (updI f v x)))) := by
  have : (farV ks f).length = ks.length := by unfold farV mapV; rw [List.length_map]
  simp only [stM, e, keyOf]
  rw [if_pos (by unfold szLine; omega), farV_less hv]
theorem put_far2 {h : MH} {m : Nat} {ks : List Int} {f : Int → Int} {v x : Int} (e : h[m]? = some (.dK (farV ks f))) (hz : ks.length < 16777216) (hv : v ∉ ks) : stM h (.ref m) (.int v) (frV (fr x)) = some (h.set m (.dK (farV (ks ++ [v]) (updI f v x)))) := by
  rw [← farV_more hv]
  exact put_mapV e hv hz
theorem in_farC {h : MH} {m : Nat} {ks : List Int} {f : Int → MV} (e : h[m]? = some (.dK (mapV ks f))) (p : Int) : opIn h (.int p) (.ref m) = some (.bl (decide (p ∈ ks))) := by
  have R : RdL h (.ref m) (mapV ks f) := .inr ⟨m, rfl, .inl e⟩
  unfold opIn
  simp only [R.seq, lookM, R.dict, keyOf, getK_mapV]
  by_cases q : p ∈ ks <;> simp [q]
theorem notin_farC {h : MH} {m : Nat} {ks : List Int} {f : Int → MV} (e : h[m]? = some (.dK (mapV ks f))) (p : Int) : opNotIn h (.int p) (.ref m) = some (.bl (!decide (p ∈ ks))) := by
  have R : RdL h (.ref m) (mapV ks f) := .inr ⟨m, rfl, .inl e⟩
  unfold opNotIn
  simp only [R.seq, lookM, R.dict, keyOf, getK_mapV]
  by_cases q : p ∈ ks <;> simp [q]
theorem ix_farC {h : MH} {m : Nat} {ks : List Int} {f : Int → MV} {p : Int} (e : h[m]? = some (.dK (mapV ks f))) (hp : p ∈ ks) : opIx h (.ref m) (.int p) = some (f p) := by
  have R : RdL h (.ref m) (mapV ks f) := .inr ⟨m, rfl, .inl e⟩
  unfold opIx
  simp only [R.seq, lookM, R.dict, keyOf, getK_mapV, if_pos hp]
theorem in_mapD {h : MH} {ks : List Int} {f : Int → MV} (p : Int) : opIn h (.int p) (.dK (mapV ks f)) = some (.bl (decide (p ∈ ks))) := by
  have R : RdL h (.dK (mapV ks f)) (mapV ks f) := .inl rfl
  unfold opIn
  simp only [R.seq, lookM, R.dict, keyOf, getK_mapV]
  by_cases q : p ∈ ks <;> simp [q]
theorem ix_mapD {h : MH} {ks : List Int} {f : Int → MV} {p : Int} (hp : p ∈ ks) : opIx h (.dK (mapV ks f)) (.int p) = some (f p) := by
  have R : RdL h (.dK (mapV ks f)) (mapV ks f) := .inl rfl
  unfold opIx
  simp only [R.seq, lookM, R.dict, keyOf, getK_mapV, if_pos hp]
theorem rowlen {W : WL} (w : Web W) (nW : Names (keysOf' W)) : ∀ u r, rowOf W u = some r → r.length ≤ 1000 := fun u r e => w.len nW.2 e
theorem bk_far {W : WL} {ℓ : Int → Int → Int} {s : Int} {n : Nat} {ks : List Int} {f : Int → Int} {t : Int → Nat} (g : FarI W ℓ BL s n ks f t) (kl : W.length ≤ 12) {p : Int} (hp : p ∈ ks) : 0 ≤ f p ∧ f p ≤ 12 * BL := by
  have l1 := sub_len' g.nd g.sub
  rw [keys_len] at l1
  have h1 := g.bd p hp
  have h2 : ((ks.length : Int) - 1) * BL ≤ 12 * BL := Int.mul_le_mul_of_nonneg_right (by omega) (by decide)
  exact ⟨g.nn p hp, by omega⟩
theorem far_at {W : WL} (w : Web W) (nW : Names (keysOf' W)) (kl : W.length ≤ 12) {L : Int × Int → Int} (hL : ∀ p, 0 ≤ L p ∧ L p ≤ BL) {s : Int} (hs : s ∈ keysOf' W) (h : MH) :
    ∃ ks f, FarOk W (symL L) BL s ks f ∧ (toldF g__law_far) [.dK (websV W), .dT (lenT (tiesOf W) L), .int s, .dK (mapV (keysOf' W) fun _ => .bl true)] h = some (.dK (farV ks f), h) := by
  have l0 : ∀ u v, v ∈ rowsAt W u → 0 ≤ symL L u v ∧ symL L u v ≤ BL := fun u v _ => hL _
  have lS : (stepsOf W).length ≤ 100000 := by
    have a := steps_len (rowlen w nW) (sortI (keysOf' W))
    have b := (sortI_perm (keysOf' W)).length_eq
    have c := keys_len W
    unfold stepsOf
    omega
  have raw : We (g__law_far [.dK (websV W), .dT (lenT (tiesOf W) L), .int s, .dK (mapV (keysOf' W) fun _ => .bl true)] h) fun r h' => r = .ref h.length ∧ ∃ ks f, FarOk W (symL L) BL s ks f ∧ h' = h ++ [.dK (farV ks f)] := by
    refine d__law_far ?_
    unfold b__law_far
    show wp
    refine ⟨.dK [(.inl s, .tup [.int 0, .int 1])], _, rfl, ?_⟩
    show wp
    rw [show (h ++ [MC.dK [((Sum.inl s : MK), MV.tup [.int 0, .int 1])]]) = h ++ [.dK (farV [s] fun _ => 0)] by rw [show (MV.tup [.int 0, .int 1]) = frV (fr 0) by rw [fr_zero]; rfl]; rfl]
    refine wwhileN (fun n S h1 => ∃ ks f t N o6 o7 o8 b, FarI W (symL L) BL s N ks f t ∧ (b = false → ∀ u ∈ ks, ∀ v ∈ rowsAt W u, v ∈ ks ∧ f v ≤ f u + symL L u v) ∧ n = (if b then 1 else 0) + 2 * farM W.length BL.toNat ks f ∧ S = [some (.dK (websV W)), some (.dT (lenT (tiesOf W) L)), some (.int s), some (.dK (mapV (keysOf' W) fun _ => .bl true)), some (.ref h.length), some (.bl b), o6, o7, o8] ∧ h1 = h ++ [.dK (farV ks f)]) _ ⟨[s], fun _ => 0, fun _ => 0, 1, none, none, none, true, FarI.start hs, fun z => (by cases z), rfl, rfl, rfl⟩ ?_
    rintro n S h1 ⟨ks, f, t, N, o6, o7, o8, b, g, hb, rfl, rfl, rfl⟩
    unfold W1__law_far
    show wp
    cases b with
    | false =>
      show wp
      exact ⟨rfl, ks, f, g.done (by decide) (hb rfl), rfl⟩
    | true =>
      refine kB_t ?_
      unfold B1__law_far
      show wp
      show wr (lsteps_at W (by omega) (rowlen w nW) _)
      refine wfor (fun i S h1 => ∃ ks' f' t' N' o6 o7 o8 b, FarI W (symL L) BL s N' ks' f' t' ∧ (b = false → ks' = ks ∧ f' = f ∧ ∀ q ∈ (stepsOf W).take i, q.1 ∈ ks → q.2 ∈ ks ∧ f q.2 ≤ f q.1 + symL L q.1 q.2) ∧ (b = true → farM W.length BL.toNat ks' f' < farM W.length BL.toNat ks f) ∧ S = [some (.dK (websV W)), some (.dT (lenT (tiesOf W) L)), some (.int s), some (.dK (mapV (keysOf' W) fun _ => .bl true)), some (.ref h.length), some (.bl b), o6, o7, o8] ∧ h1 = h ++ [.dK (farV ks' f')]) ⟨ks, f, t, N, o6, o7, o8, false, g, fun _ => ⟨rfl, rfl, fun q hq => by simp at hq⟩, fun z => (by cases z), rfl, rfl⟩ ?_ ?_
      · rintro i x S h1 ex ⟨ks', f', t', N', o6, o7, o8, b, g', hb', hm', rfl, rfl⟩
        rw [List.getElem?_map] at ex
        cases ep : (stepsOf W)[i]? with
        | none => rw [ep] at ex; cases ex
        | some p =>
          rw [ep] at ex; cases ex
          have hp : p.2 ∈ rowsAt W p.1 := by
            obtain ⟨r, er, hv⟩ := (mem_steps (u := p.1) (v := p.2)).mp (List.mem_of_getElem? ep)
            unfold rowsAt; rw [er]; exact hv
          have l1 := sub_len' g'.nd g'.sub
          rw [keys_len] at l1
          have vk : p.2 ∈ keysOf' W := (rows_key w hp).1
          have stay : (p.1 ∈ ks' → p.2 ∈ ks' ∧ f' p.2 ≤ f' p.1 + symL L p.1 p.2) → (b = false → ks' = ks ∧ f' = f ∧ ∀ q ∈ (stepsOf W).take (i + 1), q.1 ∈ ks → q.2 ∈ ks ∧ f q.2 ≤ f q.1 + symL L q.1 q.2) := fun c z => by
            obtain ⟨e1, e2, h3⟩ := hb' z
            refine ⟨e1, e2, fun q hq hk => ?_⟩
            rw [take_snoc ep] at hq
            rcases List.mem_append.mp hq with hq | hq
            · exact h3 q hq hk
            · rw [List.mem_singleton.mp hq] at hk ⊢
              rw [← e1, ← e2] at *
              exact c hk
          have lt1 : ∀ {ks2 : List Int} {f2 : Int → Int}, farM W.length BL.toNat ks2 f2 < farM W.length BL.toNat ks' f' → farM W.length BL.toNat ks2 f2 < farM W.length BL.toNat ks f := fun {ks2 f2} z => by
            cases b with
            | false => obtain ⟨e1, e2, _⟩ := hb' rfl; rw [e1, e2] at z; exact z
            | true => exact Nat.lt_trans z (hm' rfl)
          unfold B2__law_far
          show wp
          show wr (in_farC get_last p.1)
          by_cases z1 : p.1 ∈ ks'
          · rw [decide_eq_true z1]
            show wp
            show wr (in_mapD p.2)
            rw [decide_eq_true vk]
            show wp
            show wr (ix_farC get_last z1)
            show wr (ix_len w hp _)
            obtain ⟨j0, j1⟩ := bk_far g' kl z1
            obtain ⟨k0, k1⟩ := l0 p.1 p.2 hp
            have J : Bk (f' p.1) := ⟨j0, by unfold BL at j1; omega⟩
            have K : Bk (symL L p.1 p.2) := ⟨k0, by unfold BL at k1; omega⟩
            show wr (sum_at J K _)
            show wr (notin_farC get_last p.2)
            by_cases z2 : p.2 ∈ ks'
            · rw [decide_eq_true z2]
              show wp
              show wr (ix_farC get_last z2)
              obtain ⟨m0, m1⟩ := bk_far g' kl z2
              have M : Bk (f' p.2) := ⟨m0, by unfold BL at m1; omega⟩
              have JK : Bk (f' p.1 + symL L p.1 p.2) := ⟨by omega, by unfold BL at j1 k1; omega⟩
              show wr (before_at JK M _)
              refine br_dec (fun c => ?_) (fun c => ?_)
              · have pf := put_far (h := h ++ [.dK (farV ks' f')]) (m := h.length) (ks := ks') (f := f') (v := p.2) (x := f' p.1 + symL L p.1 p.2) get_last (by omega) z2
                rw [set_last] at pf
                show wp
                show wr pf
                exact ⟨.inl rfl, ks', _, _, _, _, _, _, true, g'.less w l0 z1 hp z2 c, fun z => (by cases z), fun _ => lt1 (g'.m_less (B := BL.toNat) l0 z1 hp z2 c), rfl, rfl⟩
              · show wp
                exact ⟨.inl rfl, ks', f', t', N', _, _, _, b, g', stay fun _ => ⟨z2, by omega⟩, hm', rfl, rfl⟩
            · rw [decide_eq_false z2]
              have pf := put_far2 (h := h ++ [.dK (farV ks' f')]) (m := h.length) (ks := ks') (f := f') (v := p.2) (x := f' p.1 + symL L p.1 p.2) get_last (by omega) z2
              rw [set_last] at pf
              show wp
              show wr pf
              exact ⟨.inl rfl, _, _, _, _, _, _, _, true, g'.more w (by decide) l0 z1 hp z2, fun z => (by cases z), fun _ => lt1 (g'.m_more w (B := BL.toNat) l0 z1 hp z2), rfl, rfl⟩
          · rw [decide_eq_false z1]
            show wp
            exact ⟨.inl rfl, ks', f', t', N', _, _, _, b, g', stay fun z => absurd z z1, hm', rfl, rfl⟩
      · rintro S h1 ⟨ks', f', t', N', o6, o7, o8, b, g', hb', hm', rfl, rfl⟩
        rw [List.length_map, List.take_length] at hb'
        refine ⟨.inl rfl, (if b then 1 else 0) + 2 * farM W.length BL.toNat ks' f', ?_, ks', f', t', N', o6, o7, o8, b, g', fun z u hu v hv => ?_, rfl, rfl, rfl⟩
        · cases b with
          | true => have := hm' rfl; simp only [if_true]; omega
          | false => obtain ⟨e1, e2, _⟩ := hb' rfl; rw [e1, e2]; simp
        · obtain ⟨e1, e2, h3⟩ := hb' z
          rw [e1] at hu ⊢
          rw [e2]
          have hr : ∃ r, rowOf W u = some r ∧ v ∈ r := by
            unfold rowsAt at hv
            cases e : rowOf W u with
            | none => rw [e] at hv; simp at hv
            | some r => rw [e] at hv; exact ⟨r, rfl, hv⟩
          exact h3 (u, v) (mem_steps.mpr hr) hu
  obtain ⟨r, h', er, rfl, ks, f, ok, rfl⟩ := raw
  exact ⟨ks, f, ok, toldF_dK er get_last (Nat.le_refl _) (plain_mapV (fun _ => rfl) _) rfl same_plain⟩
/-! ### the rows of a paper of ways -/
/-- the start, or a point that has a row: steps and the previous point -/
def hasR (s : Int) (g : Int → Option (Int × Int)) (p : Int) : Prop := p = s ∨ (g p).isSome = true
def stpR (s : Int) (g : Int → Option (Int × Int)) (p : Int) : Int := if p = s then 0 else ((g p).getD (0, 0)).1
structure WayI (W : WL) (ℓ : Int → Int → Int) (s : Int) (ks : List Int) (f : Int → Int) (hs : List Int) (g : Int → Option (Int × Int)) : Prop where
  nd : hs.Nodup
  dom : ∀ p, (g p).isSome = true ↔ p ∈ hs
  sub : ∀ p ∈ hs, p ∈ keysOf' W
  row : ∀ p st u, g p = some (st, u) → p ≠ s ∧ p ∈ ks ∧ u ∈ ks ∧ hasR s g u ∧ u ∈ rowsAt W p ∧ f u + ℓ u p = f p ∧ st = stpR s g u + 1
  nn : ∀ p, hasR s g p → 0 ≤ stpR s g p
theorem WayI.start {W : WL} {ℓ : Int → Int → Int} {s : Int} {ks : List Int} {f : Int → Int} : WayI W ℓ s ks f [] (fun _ => none) := by
  refine ⟨by simp, by simp, by simp, fun p st u e => (by cases e), fun p h => ?_⟩
  rcases h with h | h
  · simp [stpR, h]
  · cases h
theorem WayI.put {W : WL} (w : Web W) {ℓ : Int → Int → Int} {B s : Int} {ks : List Int} {f : Int → Int} (F : FarOk W ℓ B s ks f) {hs : List Int} {g : Int → Option (Int × Int)} (i : WayI W ℓ s ks f hs g) {v u : Int} (vs : v ≠ s) (nv : g v = none) (hu : hasR s g u) (uv : u ∈ rowsAt W v) (e : f u + ℓ u v = f v) :
    WayI W ℓ s ks f (hs ++ [v]) (updI g v (some (stpR s g u + 1, u))) := by
  have uk : u ∈ ks := by
    rcases hu with h | h
    · rw [h]; exact F.si
    · obtain ⟨⟨st, x⟩, ex⟩ := Option.isSome_iff_exists.mp h
      exact (i.row u st x ex).2.1
  have vk : v ∈ ks := (F.cl u uk v (rows_sym w uv)).1
  have nh : v ∉ hs := fun z => by
    have := (i.dom v).mpr z
    rw [nv] at this
    cases this
  have hne : ∀ x, hasR s g x → x ≠ v := fun x hx z => by
    rcases hx with h | h
    · exact vs (z ▸ h)
    · rw [z, nv] at h; cases h
  have hk : ∀ x, hasR s g x → hasR s (updI g v (some (stpR s g u + 1, u))) x ∧ stpR s (updI g v (some (stpR s g u + 1, u))) x = stpR s g x := fun x hx => by
    have ne := hne x hx
    refine ⟨?_, ?_⟩
    · rcases hx with h | h
      · exact .inl h
      · exact .inr (by simp only [updI, if_neg ne]; exact h)
    · unfold stpR
      split
      · rfl
      · simp only [updI, if_neg ne]
  refine ⟨List.nodup_append.mpr ⟨i.nd, by simp, fun a ha b hb e => nh (by rw [← List.mem_singleton.mp hb, ← e]; exact ha)⟩, fun p => ?_, fun p hp => ?_, fun p st x ep => ?_, fun p hp => ?_⟩
  · by_cases q : p = v
    · subst q; simp [updI]
    · simp only [updI, if_neg q, List.mem_append, List.mem_singleton, q, or_false]
      exact i.dom p
  · rcases List.mem_append.mp hp with h | h
    · exact i.sub p h
    · rw [List.mem_singleton.mp h]; exact (rows_key w uv).2
  · by_cases q : p = v
    · subst q
      simp only [updI, if_true, Option.some.injEq, Prod.mk.injEq] at ep
      obtain ⟨rfl, rfl⟩ := ep
      exact ⟨vs, vk, uk, (hk _ hu).1, uv, e, by rw [(hk _ hu).2]⟩
    · simp only [updI, if_neg q] at ep
      obtain ⟨a, b, c, d, e1, e2, e3⟩ := i.row p st x ep
      exact ⟨a, b, c, (hk x d).1, e1, e2, by rw [(hk x d).2]; exact e3⟩
  · by_cases q : p = v
    · subst q
      have h0 := i.nn u hu
      have e1 : stpR s (updI g p (some (stpR s g u + 1, u))) p = stpR s g u + 1 := by
        generalize stpR s g u + 1 = k
        unfold stpR
        rw [if_neg vs]
        simp [updI]
      omega
    · have hp' : hasR s g p := by
        rcases hp with h | h
        · exact .inl h
        · simp only [updI, if_neg q] at h
          exact .inr h
      rw [(hk p hp').2]
      exact i.nn p hp'
structure WayOk (W : WL) (ℓ : Int → Int → Int) (s : Int) (ks : List Int) (f : Int → Int) (g : Int → Option (Int × Int)) : Prop where
  row : ∀ p st u, g p = some (st, u) → p ≠ s ∧ p ∈ ks ∧ u ∈ ks ∧ hasR s g u ∧ u ∈ rowsAt W p ∧ f u + ℓ u p = f p ∧ st = stpR s g u + 1
  all : ∀ p ∈ ks, hasR s g p
  nn : ∀ p, hasR s g p → 0 ≤ stpR s g p
theorem WayI.done {W : WL} (w : Web W) {ℓ : Int → Int → Int} {B s : Int} {ks : List Int} {f : Int → Int} (F : FarOk W ℓ B s ks f) {hs : List Int} {g : Int → Option (Int × Int)} (i : WayI W ℓ s ks f hs g) (no : ∀ v ∈ keysOf' W, v ≠ s → g v = none → ∀ u ∈ rowsAt W v, hasR s g u → f u + ℓ u v ≠ f v) : WayOk W ℓ s ks f g := by
  refine ⟨i.row, ?_, i.nn⟩
  obtain ⟨t, ti⟩ := F.ti
  have key : ∀ (n : Nat) (p : Int), p ∈ ks → t p < n → hasR s g p := fun n => by
    induction n with
    | zero => intro p _ h; omega
    | succ n ih =>
      intro p hp h
      by_cases ps : p = s
      · exact .inl ps
      · obtain ⟨u, hu, hpu, e, lt⟩ := ti p hp ps
        have hu2 := ih u hu (by omega)
        cases eg : g p with
        | some x => exact .inr (by rw [eg]; rfl)
        | none => exact absurd e (no p (F.sub p hp) ps eg u (rows_sym w hpu) hu2)
  exact fun p hp => key (t p + 1) p hp (by omega)
theorem WayOk.steps {W : WL} {ℓ : Int → Int → Int} {B s : Int} {ks : List Int} {f : Int → Int} (F : FarOk W ℓ B s ks f) {g : Int → Option (Int × Int)} (o : WayOk W ℓ s ks f g) {p : Int} (hp : p ∈ ks) (ps : p ≠ s) : ∃ st u, g p = some (st, u) ∧ u ∈ ks ∧ u ∈ rowsAt W p ∧ f u + ℓ u p = f p ∧ st = stpR s g u + 1 ∧ stpR s g p = st := by
  rcases o.all p hp with h | h
  · exact absurd h ps
  · obtain ⟨⟨st, u⟩, e⟩ := Option.isSome_iff_exists.mp h
    obtain ⟨_, _, c, _, d, e1, e2⟩ := o.row p st u e
    exact ⟨st, u, e, c, d, e1, e2, by unfold stpR; rw [if_neg ps, e]; rfl⟩
/-! ### a paper of ways by the law's own rounds -/
theorem put_mapU {h : MH} {m : Nat} {ks : List Int} {f : Int → MV} {v : Int} {x : MV} (e : h[m]? = some (.dK (mapV ks f))) (hz : ks.length < 16777216) (hv : v ∈ ks) : stM h (.ref m) (.int v) x = some (h.set m (.dK (mapV ks (updI f v x)))) := by
  have l : (mapV ks f).length = ks.length := by unfold mapV; rw [List.length_map]
  have p : putM (mapV ks f) (.inl v) x = mapV ks (updI f v x) := by
    unfold mapV putM
    have hany : ((ks.map fun p => ((Sum.inl p : MK), f p)).any fun kv => decide (kv.1 = .inl v)) = true := by
      rw [List.any_eq_true]
      exact ⟨(.inl v, f v), List.mem_map.mpr ⟨v, hv, rfl⟩, by simp⟩
    rw [if_pos hany, List.map_map]
    refine List.map_congr_left fun p _ => ?_
    simp only [Function.comp_apply, Sum.inl.injEq, updI]
    split <;> rfl
  simp only [stM, e, keyOf]
  rw [if_pos (by unfold szLine; omega), p]
def wrow (s : Int) (f : Int → Int) (g : Int → Option (Int × Int)) (p : Int) : MV := if p = s then .tup [.row [.int 0, .int 1], .int 0, .non] else match g p with
  | none => .non
  | some q => .tup [frV (fr (f p)), .int q.1, .int q.2]
def hasB (s : Int) (g : Int → Option (Int × Int)) (p : Int) : Bool := decide (p = s) || (g p).isSome
theorem hasB_iff {s : Int} {g : Int → Option (Int × Int)} {p : Int} : hasB s g p = true ↔ hasR s g p := by
  unfold hasB hasR
  rw [Bool.or_eq_true, decide_eq_true_eq]
theorem wrow_cases (s : Int) (f : Int → Int) (g : Int → Option (Int × Int)) (p : Int) : (hasB s g p = false ∧ p ≠ s ∧ g p = none ∧ wrow s f g p = .non) ∨ (hasB s g p = true ∧ ∃ x z, wrow s f g p = .tup [x, .int (stpR s g p), z]) := by
  unfold hasB wrow stpR
  by_cases q : p = s
  · rw [if_pos q, if_pos q, decide_eq_true q]
    exact .inr ⟨rfl, _, _, rfl⟩
  · rw [if_neg q, if_neg q, decide_eq_false q]
    cases e : g p with
    | none => exact .inl ⟨rfl, q, rfl, rfl⟩
    | some y => exact .inr ⟨rfl, _, _, rfl⟩
theorem wrow_start (s : Int) (f : Int → Int) : updI (fun _ => MV.non) s (.tup [.row [.int 0, .int 1], .int 0, .non]) = wrow s f (fun _ => none) := by
  funext p
  unfold updI wrow
  split <;> rfl
theorem bk_ok {W : WL} {ℓ : Int → Int → Int} {s : Int} {ks : List Int} {f : Int → Int} (F : FarOk W ℓ BL s ks f) (kl : W.length ≤ 12) {p : Int} (hp : p ∈ ks) : 0 ≤ f p ∧ f p ≤ 12 * BL := by
  have h1 := F.bd p hp
  have h2 : (W.length : Int) * BL ≤ 12 * BL := Int.mul_le_mul_of_nonneg_right (by omega) (by decide)
  exact ⟨F.nn p hp, by omega⟩
theorem bk_len {L : Int × Int → Int} (hL : ∀ p, 0 ≤ L p ∧ L p ≤ BL) (u v : Int) : Bk (symL L u v) := by
  obtain ⟨h1, h2⟩ := hL (if v < u then v else u, if v > u then v else u)
  unfold symL
  exact ⟨h1, by unfold BL at h2; omega⟩
/-! ### the nearest first -/
def bettr (f : Int → Int) (left : List Int) (v : Int) : Option Nat → Bool
  | none => true
  | some b => decide (f v < f (left.getD b 0))
def nearS (hb : Int → Bool) (f : Int → Int) (left : List Int) : Nat → Option Nat
  | 0 => none
  | i + 1 => match left[i]? with
    | none => nearS hb f left i
    | some v => if hb v && bettr f left v (nearS hb f left i) then some i else nearS hb f left i
theorem near_none {hb : Int → Bool} {f : Int → Int} {left : List Int} : ∀ n, nearS hb f left n = none → ∀ v ∈ left.take n, hb v = false
  | 0, _, v, hv => by simp at hv
  | n + 1, e, v, hv => by
    unfold nearS at e
    cases q : left[n]? with
    | none =>
      rw [q] at e
      have : left.take (n + 1) = left.take n := by
        rw [List.getElem?_eq_none_iff] at q
        rw [List.take_of_length_le (by omega), List.take_of_length_le (by omega)]
      rw [this] at hv
      exact near_none n e v hv
    | some x =>
      rw [q] at e
      simp only at e
      split at e
      · cases e
      · rename_i c
        rw [take_snoc q] at hv
        rcases List.mem_append.mp hv with hv | hv
        · exact near_none n e v hv
        · rw [List.mem_singleton.mp hv]
          rw [e] at c
          simpa [bettr] using c
theorem near_some {hb : Int → Bool} {f : Int → Int} {left : List Int} : ∀ n b, nearS hb f left n = some b → b < n ∧ ∃ p, left[b]? = some p ∧ hb p = true ∧ ∀ v ∈ left.take n, hb v = true → f p ≤ f v
  | 0, b, e => by cases e
  | n + 1, b, e => by
    unfold nearS at e
    cases q : left[n]? with
    | none =>
      rw [q] at e
      have : left.take (n + 1) = left.take n := by
        rw [List.getElem?_eq_none_iff] at q
        rw [List.take_of_length_le (by omega), List.take_of_length_le (by omega)]
      rw [this]
      obtain ⟨h1, h2⟩ := near_some n b e
      exact ⟨by omega, h2⟩
    | some x =>
      rw [q] at e
      simp only at e
      rw [take_snoc q]
      split at e
      · rename_i c
        cases e
        rw [Bool.and_eq_true] at c
        refine ⟨by omega, x, q, c.1, fun v hv hvb => ?_⟩
        rcases List.mem_append.mp hv with hv | hv
        · cases e2 : nearS hb f left n with
          | none =>
            have := near_none n e2 v hv
            rw [hvb] at this; cases this
          | some b2 =>
            rw [e2] at c
            obtain ⟨h1, p, h2, h3, h4⟩ := near_some n b2 e2
            have c2 : f x < f (left.getD b2 0) := by simpa only [bettr, decide_eq_true_eq] using c.2
            rw [List.getD_eq_getElem?_getD, h2, Option.getD_some] at c2
            have := h4 v hv hvb
            omega
        · rw [List.mem_singleton.mp hv]; exact Int.le_refl _
      · rename_i c
        obtain ⟨h1, p, h2, h3, h4⟩ := near_some n b e
        refine ⟨by omega, p, h2, h3, fun v hv hvb => ?_⟩
        rcases List.mem_append.mp hv with hv | hv
        · exact h4 v hv hvb
        · rw [List.mem_singleton.mp hv] at hvb ⊢
          rw [e, hvb, Bool.true_and] at c
          simp only [bettr, decide_eq_true_eq] at c
          rw [List.getD_eq_getElem?_getD, h2, Option.getD_some] at c
          omega
abbrev FG : Type := (Int → Int) × (Int → Option (Int × Int))
def stepS (ℓ : Int → Int → Int) (s p k st : Int) (q : FG) (v : Int) : FG := if !hasB s q.2 v || decide (k + ℓ p v < q.1 v) then (updI q.1 v (k + ℓ p v), updI q.2 v (some (st + 1, p))) else q
def reachS (ℓ : Int → Int → Int) (s p k st : Int) (r : List Int) (q : FG) : FG := r.foldl (stepS ℓ s p k st) q
/-- what reach_from changes -/
structure Rea (ℓ : Int → Int → Int) (s p k st : Int) (r : List Int) (q q' : FG) : Prop where
  ch : ∀ v, (q'.1 v = q.1 v ∧ q'.2 v = q.2 v) ∨ (v ∈ r ∧ q'.1 v = k + ℓ p v ∧ q'.2 v = some (st + 1, p) ∧ (hasB s q.2 v = false ∨ k + ℓ p v < q.1 v))
  al : ∀ v ∈ r, hasB s q'.2 v = true ∧ q'.1 v ≤ k + ℓ p v
theorem hasB_upd {s : Int} {g : Int → Option (Int × Int)} {v w : Int} {y : Int × Int} : hasB s (updI g v (some y)) w = (decide (w = v) || hasB s g w) := by
  unfold hasB updI
  by_cases q : w = v
  · simp [q]
  · simp [q]
theorem reach_ok {ℓ : Int → Int → Int} {s p k st : Int} : ∀ (r2 r1 : List Int) (q q1 : FG), Rea ℓ s p k st r1 q q1 → Rea ℓ s p k st (r1 ++ r2) q (reachS ℓ s p k st r2 q1)
  | [], r1, q, q1, a => by rw [List.append_nil]; exact a
  | v :: r2, r1, q, q1, a => by
    have h := reach_ok (ℓ := ℓ) (s := s) (p := p) (k := k) (st := st) r2 (r1 ++ [v]) q (stepS ℓ s p k st q1 v) (by
      unfold stepS
      split
      · rename_i c
        refine ⟨fun x => ?_, fun x hx => ?_⟩
        · by_cases xv : x = v
          · subst xv
            refine .inr ⟨by simp, by simp [updI], by simp [updI], ?_⟩
            rcases a.ch x with ⟨a1, a2⟩ | ⟨a1, a2, a3, a4⟩
            · rw [Bool.or_eq_true, Bool.not_eq_true', decide_eq_true_eq] at c
              unfold hasB at c ⊢
              rw [a1, a2] at c
              exact c
            · exact a4
          · rcases a.ch x with ⟨a1, a2⟩ | ⟨a1, a2, a3, a4⟩
            · exact .inl ⟨by simp only [updI, if_neg xv]; exact a1, by simp only [updI, if_neg xv]; exact a2⟩
            · exact .inr ⟨List.mem_append_left _ a1, by simp only [updI, if_neg xv]; exact a2, by simp only [updI, if_neg xv]; exact a3, a4⟩
        · rw [hasB_upd]
          by_cases xv : x = v
          · subst xv
            exact ⟨by simp, by simp [updI]⟩
          · have hx1 : x ∈ r1 := by
              rcases List.mem_append.mp hx with h | h
              · exact h
              · exact absurd (List.mem_singleton.mp h) xv
            have := a.al x hx1
            exact ⟨by rw [this.1, Bool.or_true], by simp only [updI, if_neg xv]; exact this.2⟩
      · rename_i c
        rw [Bool.or_eq_true, not_or, Bool.not_eq_true', decide_eq_true_eq] at c
        have c1 : hasB s q1.2 v = true := by simpa using c.1
        refine ⟨fun x => ?_, fun x hx => ?_⟩
        · rcases a.ch x with h | ⟨a1, h⟩
          · exact .inl h
          · exact .inr ⟨List.mem_append_left _ a1, h⟩
        · rcases List.mem_append.mp hx with h | h
          · exact a.al x h
          · rw [List.mem_singleton.mp h]
            exact ⟨c1, by omega⟩)
    rw [List.append_assoc] at h
    exact h
theorem reach_all {ℓ : Int → Int → Int} {s p k st : Int} (r : List Int) (q : FG) : Rea ℓ s p k st r q (reachS ℓ s p k st r q) := by
  have := reach_ok (ℓ := ℓ) (s := s) (p := p) (k := k) (st := st) r [] q q ⟨fun v => .inl ⟨rfl, rfl⟩, fun v hv => by cases hv⟩
  rwa [List.nil_append] at this
structure DjI (W : WL) (ℓ : Int → Int → Int) (B s : Int) (left : List Int) (f : Int → Int) (g : Int → Option (Int × Int)) : Prop where
  nd : left.Nodup
  sub : ∀ p ∈ left, p ∈ keysOf' W
  row : ∀ p st u, g p = some (st, u) → p ≠ s ∧ p ∈ keysOf' W ∧ u ∈ keysOf' W ∧ u ∉ left ∧ hasR s g u ∧ u ∈ rowsAt W p ∧ f u + ℓ u p = f p ∧ st = stpR s g u + 1
  s0 : f s = 0
  nn : ∀ p, hasR s g p → 0 ≤ f p ∧ 0 ≤ stpR s g p ∧ f p ≤ stpR s g p * B
  sz : ∀ p, hasR s g p → stpR s g p + left.length ≤ W.length
  don : ∀ u ∈ keysOf' W, u ∉ left → hasR s g u ∧ ∀ v ∈ rowsAt W u, hasR s g v ∧ f v ≤ f u + ℓ u v
  mon : ∀ u ∈ keysOf' W, u ∉ left → ∀ v ∈ left, hasR s g v → f u ≤ f v
theorem DjI.start {W : WL} (w : Web W) {ℓ : Int → Int → Int} {B s : Int} : DjI W ℓ B s (sortI (keysOf' W)) (fun _ => 0) (fun _ => none) := by
  have pm := sortI_perm (keysOf' W)
  have st0 : ∀ p, hasR s (fun _ => none) p → stpR s (fun _ => none) p = 0 := fun p h => by
    rcases h with h | h
    · unfold stpR; rw [if_pos h]
    · cases h
  refine ⟨pm.nodup_iff.mpr w.nd, fun p hp => pm.mem_iff.mp hp, fun p st u e => (by cases e), rfl, fun p h => ?_, fun p h => ?_, fun u hu hn => absurd (pm.mem_iff.mpr hu) hn, fun u hu hn => absurd (pm.mem_iff.mpr hu) hn⟩
  · rw [st0 p h]; exact ⟨Int.le_refl _, Int.le_refl _, by simp⟩
  · rw [st0 p h, pm.length_eq, keys_len]; omega
theorem eraseIdx_nd {left : List Int} (nd : left.Nodup) {b : Nat} {p : Int} (e : left[b]? = some p) : ∀ x, x ∈ left.eraseIdx b ↔ x ∈ left ∧ x ≠ p := fun x => by
  rw [List.mem_eraseIdx_iff_getElem?]
  constructor
  · rintro ⟨i, hi, ei⟩
    refine ⟨List.mem_of_getElem? ei, fun z => ?_⟩
    subst z
    obtain ⟨h1, e1⟩ := List.getElem?_eq_some_iff.mp ei
    obtain ⟨h2, e2⟩ := List.getElem?_eq_some_iff.mp e
    have a := nd.idxOf_getElem i h1
    have c := nd.idxOf_getElem b h2
    rw [e1] at a
    rw [e2] at c
    omega
  · rintro ⟨hx, ne⟩
    obtain ⟨i, ei⟩ := List.getElem?_of_mem hx
    exact ⟨i, fun z => ne (by rw [z, e] at ei; exact (Option.some.inj ei).symm), ei⟩
theorem DjI.next {W : WL} (w : Web W) {ℓ : Int → Int → Int} {B s : Int} (l0 : ∀ u v, v ∈ rowsAt W u → 0 ≤ ℓ u v ∧ ℓ u v ≤ B) {left : List Int} {f : Int → Int} {g : Int → Option (Int × Int)} (i : DjI W ℓ B s left f g) {b : Nat} {p : Int} (eb : left[b]? = some p) (hp : hasR s g p) (mn : ∀ v ∈ left, hasR s g v → f p ≤ f v) {q' : FG} (R : Rea ℓ s p (f p) (stpR s g p) (rowsAt W p) (f, g) q') :
    DjI W ℓ B s (left.eraseIdx b) q'.1 q'.2 := by
  obtain ⟨f', g'⟩ := q'
  have ch := R.ch
  have al := R.al
  simp only at ch al ⊢
  have pl : p ∈ left := List.mem_of_getElem? eb
  have pk := i.sub p pl
  have me := eraseIdx_nd i.nd eb
  have ll : (left.eraseIdx b).length + 1 = left.length := by
    have := (List.getElem?_eq_some_iff.mp eb).1
    rw [List.length_eraseIdx_of_lt this]; omega
  obtain ⟨fp0, sp0, fpB⟩ := i.nn p hp
  have chg : ∀ v, v ∈ rowsAt W p → (hasB s g v = false ∨ f p + ℓ p v < f v) → v ∈ left ∧ v ≠ p ∧ v ≠ s := fun v hv c => by
    have vk := (rows_key w hv).1
    have lv := (l0 p v hv).1
    have hc : hasR s g v → f v ≤ f p + ℓ p v → False := fun h1 h2 => by
      rcases c with c | c
      · rw [hasB_iff.mpr h1] at c; cases c
      · omega
    refine ⟨Classical.byContradiction fun z => ?_, fun z => rows_ne w hv z.symm, fun z => ?_⟩
    · have h1 := (i.don v vk z).1
      have h2 := i.mon v vk z p pl hp
      exact hc h1 (by omega)
    · subst z
      have := i.s0
      exact hc (.inl rfl) (by omega)
  have same : ∀ v, (v ∉ left ∨ v = p ∨ v = s) → f' v = f v ∧ g' v = g v := fun v hv => by
    rcases ch v with h | ⟨h1, _, _, h2⟩
    · exact h
    · obtain ⟨c1, c2, c3⟩ := chg v h1 h2
      rcases hv with z | z | z
      · exact absurd c1 z
      · exact absurd z c2
      · exact absurd z c3
  have hasU : ∀ v, hasR s g v → hasR s g' v := fun v hv => by
    rcases hv with z | z
    · exact .inl z
    · rcases ch v with ⟨_, h⟩ | ⟨_, _, h, _⟩
      · exact .inr (by rw [h]; exact z)
      · exact .inr (by rw [h]; rfl)
  have stS : ∀ v, g' v = g v → stpR s g' v = stpR s g v := fun v h => by unfold stpR; rw [h]
  have fle : ∀ v, hasR s g v → f' v ≤ f v := fun v hv => by
    rcases ch v with ⟨h, _⟩ | ⟨_, h1, _, h2⟩
    · omega
    · rcases h2 with z | z
      · rw [hasB_iff.mpr hv] at z; cases z
      · omega
  have nw : ∀ v, v ∈ rowsAt W p → g' v = some (stpR s g p + 1, p) → v ≠ s → stpR s g' v = stpR s g p + 1 := fun v _ e ne => by unfold stpR; rw [if_neg ne, e]; rfl
  have hasO : ∀ v, hasR s g' v → g' v = g v → hasR s g v := fun v hv e => by
    rcases hv with z | z
    · exact .inl z
    · exact .inr (by rw [← e]; exact z)
  refine ⟨i.nd.sublist (List.eraseIdx_sublist _ _), fun v hv => i.sub v ((me v).mp hv).1, fun v st u e => ?_, by rw [(same s (.inr (.inr rfl))).1]; exact i.s0, fun v hv => ?_, fun v hv => ?_, fun u hu hn => ?_, fun u hu hn v hv hvr => ?_⟩
  · rcases ch v with ⟨h1, h2⟩ | ⟨h1, h2, h3, h4⟩
    · rw [h2] at e
      obtain ⟨a1, a2, a3, a4, a5, a6, a7, a8⟩ := i.row v st u e
      obtain ⟨b1, b2⟩ := same u (.inl a4)
      exact ⟨a1, a2, a3, fun z => a4 ((me u).mp z).1, hasU u a5, a6, by rw [b1, h1]; exact a7, by rw [stS u b2]; exact a8⟩
    · obtain ⟨c1, c2, c3⟩ := chg v h1 h4
      rw [h3] at e
      cases e
      obtain ⟨b1, b2⟩ := same p (.inr (.inl rfl))
      exact ⟨c3, i.sub v c1, pk, fun z => ((me p).mp z).2 rfl, hasU p hp, rows_sym w h1, by rw [b1, h2], by rw [stS p b2]⟩
  · rcases ch v with ⟨h1, h2⟩ | ⟨h1, h2, h3, h4⟩
    · rw [h1, stS v h2]
      exact i.nn v (hasO v hv h2)
    · obtain ⟨c1, c2, c3⟩ := chg v h1 h4
      obtain ⟨m1, m2⟩ := l0 p v h1
      rw [h2, nw v h1 h3 c3, Int.add_mul]
      exact ⟨by omega, by omega, by omega⟩
  · rcases ch v with ⟨h1, h2⟩ | ⟨h1, h2, h3, h4⟩
    · rw [stS v h2]
      have := i.sz v (hasO v hv h2)
      omega
    · obtain ⟨c1, c2, c3⟩ := chg v h1 h4
      rw [nw v h1 h3 c3]
      have := i.sz p hp
      omega
  · by_cases up : u = p
    · subst up
      refine ⟨hasU u hp, fun v hv => ?_⟩
      obtain ⟨h1, h2⟩ := al v hv
      rw [(same u (.inr (.inl rfl))).1]
      exact ⟨hasB_iff.mp h1, h2⟩
    · have ul : u ∉ left := fun z => hn ((me u).mpr ⟨z, up⟩)
      obtain ⟨h1, h2⟩ := i.don u hu ul
      refine ⟨hasU u h1, fun v hv => ?_⟩
      obtain ⟨h3, h4⟩ := h2 v hv
      rw [(same u (.inl ul)).1]
      have := fle v h3
      exact ⟨hasU v h3, by omega⟩
  · obtain ⟨vl, vp⟩ := (me v).mp hv
    have ub : f' u = f u ∧ f u ≤ f p := by
      by_cases up : u = p
      · subst up
        exact ⟨(same u (.inr (.inl rfl))).1, Int.le_refl _⟩
      · have ul : u ∉ left := fun z => hn ((me u).mpr ⟨z, up⟩)
        exact ⟨(same u (.inl ul)).1, i.mon u hu ul p pl hp⟩
    rw [ub.1]
    rcases ch v with ⟨h1, h2⟩ | ⟨h1, h2, h3, h4⟩
    · rw [h1]
      have := mn v vl (hasO v hvr h2)
      omega
    · have := (l0 p v h1).1
      omega
theorem DjI.done {W : WL} (w : Web W) {ℓ : Int → Int → Int} {B s : Int} (b0 : 0 ≤ B) (hs : s ∈ keysOf' W) {left : List Int} {f : Int → Int} {g : Int → Option (Int × Int)} (i : DjI W ℓ B s left f g) (no : ∀ v ∈ left, hasB s g v = false) :
    FarOk W ℓ B s ((keysOf' W).filter (hasB s g)) f ∧ WayOk W ℓ s ((keysOf' W).filter (hasB s g)) f g := by
  have mem : ∀ p, p ∈ (keysOf' W).filter (hasB s g) ↔ p ∈ keysOf' W ∧ hasR s g p := fun p => by rw [List.mem_filter, hasB_iff]
  have nl : ∀ p, hasR s g p → p ∉ left := fun p hp z => by
    have := no p z
    rw [hasB_iff.mpr hp] at this; cases this
  have inK : ∀ p, hasR s g p → p ∈ keysOf' W := fun p hp => by
    rcases hp with z | z
    · rw [z]; exact hs
    · obtain ⟨⟨st, u⟩, e⟩ := Option.isSome_iff_exists.mp z
      exact (i.row p st u e).2.1
  refine ⟨⟨w.nd.filter _, fun p hp => ((mem p).mp hp).1, (mem s).mpr ⟨hs, .inl rfl⟩, i.s0, fun p hp => (i.nn p ((mem p).mp hp).2).1, fun p hp => ?_, fun u hu v hv => ?_, fun p => (stpR s g p).toNat, fun p hp ps => ?_⟩, fun p st u e => ?_, fun p hp => ((mem p).mp hp).2, fun p hp => (i.nn p hp).2.1⟩
  · have h := ((mem p).mp hp).2
    obtain ⟨h1, h2, h3⟩ := i.nn p h
    have h4 := i.sz p h
    have : stpR s g p * B ≤ (W.length : Int) * B := Int.mul_le_mul_of_nonneg_right (by omega) b0
    omega
  · obtain ⟨h1, h2⟩ := (mem u).mp hu
    obtain ⟨_, h3⟩ := i.don u h1 (nl u h2)
    obtain ⟨h4, h5⟩ := h3 v hv
    exact ⟨(mem v).mpr ⟨inK v h4, h4⟩, h5⟩
  · obtain ⟨h1, h2⟩ := (mem p).mp hp
    rcases h2 with z | z
    · exact absurd z ps
    · obtain ⟨⟨st, u⟩, e⟩ := Option.isSome_iff_exists.mp z
      obtain ⟨_, a2, a3, a4, a5, a6, a7, a8⟩ := i.row p st u e
      have e1 : stpR s g p = st := by unfold stpR; rw [if_neg ps, e]; rfl
      have := (i.nn u a5).2.1
      exact ⟨u, (mem u).mpr ⟨a3, a5⟩, rows_sym w a6, a7, by show (stpR s g u).toNat < (stpR s g p).toNat; rw [e1]; omega⟩
  · obtain ⟨a1, a2, a3, a4, a5, a6, a7, a8⟩ := i.row p st u e
    exact ⟨a1, (mem p).mpr ⟨a2, .inr (by rw [e]; rfl)⟩, (mem u).mpr ⟨a3, a5⟩, a5, a6, a7, a8⟩
/-- both go the same ways -/
theorem FarOk.le {W : WL} {ℓ : Int → Int → Int} {B C s : Int} {ks js : List Int} {f h : Int → Int} (F : FarOk W ℓ B s ks f) (G : FarOk W ℓ C s js h) : ∀ p ∈ js, p ∈ ks ∧ f p ≤ h p := by
  obtain ⟨t, ti⟩ := G.ti
  have key : ∀ (n : Nat) (p : Int), p ∈ js → t p < n → p ∈ ks ∧ f p ≤ h p := fun n => by
    induction n with
    | zero => intro p _ h; omega
    | succ n ih =>
      intro p hp hl
      by_cases ps : p = s
      · subst ps
        exact ⟨F.si, by rw [F.s0, G.s0]; exact Int.le_refl _⟩
      · obtain ⟨u, hu, hpu, e, lt⟩ := ti p hp ps
        obtain ⟨h1, h2⟩ := ih u hu (by omega)
        obtain ⟨h3, h4⟩ := F.cl u h1 p hpu
        exact ⟨h3, by omega⟩
  exact fun p hp => key (t p + 1) p hp (by omega)
theorem FarOk.same {W : WL} {ℓ : Int → Int → Int} {B C s : Int} {ks js : List Int} {f h : Int → Int} (F : FarOk W ℓ B s ks f) (G : FarOk W ℓ C s js h) (p : Int) : (p ∈ ks ↔ p ∈ js) ∧ (p ∈ ks → f p = h p) := by
  refine ⟨⟨fun hp => (G.le F p hp).1, fun hp => (F.le G p hp).1⟩, fun hp => ?_⟩
  have h1 := G.le F p hp
  have h2 := F.le G p h1.1
  omega
/-- the whole walk -/
def dijF (W : WL) (ℓ : Int → Int → Int) (s : Int) : Nat → List Int → FG → FG
  | 0, _, q => q
  | n + 1, left, q => match nearS (hasB s q.2) q.1 left left.length with
    | none => q
    | some b => dijF W ℓ s n (left.eraseIdx b) (reachS ℓ s (left.getD b 0) (q.1 (left.getD b 0)) (stpR s q.2 (left.getD b 0)) (rowsAt W (left.getD b 0)) q)
/-! ### the program's rounds -/
def FrG (k : Int) (v : MV) : Prop := v = .tup [.int (fr k).1, .int (fr k).2] ∨ v = .row [.int (fr k).1, .int (fr k).2]
theorem frG_fr (k : Int) : FrG k (frV (fr k)) := .inl rfl
theorem frG_0 : FrG 0 (.row [.int 0, .int 1]) := by rw [FrG, fr_zero]; exact .inr rfl
theorem addedG {j k : Int} {x y : MV} (J : Bk j) (K : Bk k) (hx : FrG j x) (hy : FrG k y) (h : MH) : g_added [x, y] h = some (frV (fr (j + k)), h) := by
  obtain ⟨⟨_, _⟩, _, _⟩ := fr_fine J
  obtain ⟨⟨_, _⟩, _, _⟩ := fr_fine K
  have e := fraction_pos ((fr j).1 * (fr k).2 + (fr k).1 * (fr j).2) ((fr j).2 * (fr k).2) h (mul_pos' (by assumption) (by assumption)) (by
    have := (mul_bd (a := (fr j).2) (b := (fr k).2) (A := 9690712164777231700912800) (B := 9690712164777231700912800) (by omega) (by omega) (by omega) (by omega)).2
    omega)
  rw [fr_sum] at e
  rcases hx with rfl | rfl <;> rcases hy with rfl | rfl <;> unfold g_added b_added <;> simp (discharger := omega) only [sSeq, sAsg, sIf, sRet, sRetN, sExpr, sNext, sPar, sPar3, sBk, sCt, sFor, sPut, gNm, gTp, gsCons, gsNil, xVar, xC, xOp, xUn, xCons, xNil, xArgs, xCall, xTup, xLst, xBox, boxM, xIf, xAnd, xOr, xNot, xB, xAndT, xOrT, xNotT, xAppend, xPop, xPopAt, xExtend, xExtendT, xSlL, xPart, xNoPart, iSeq, iRange1, iRange2, cYes, seqOf, listOf, isLstC, runDef, sBegin, List.map_cons, List.map_nil, List.length_cons, List.length_nil, List.getElem?_cons_zero, List.getElem?_cons_succ, List.getElem?_nil, List.set_cons_zero, List.set_cons_succ, List.cons_append, List.nil_append, List.append_nil, Nat.sub_self, Nat.zero_add, Nat.reduceAdd, Nat.reduceSub, Nat.add_one_sub_one, List.replicate_zero, List.replicate_succ, Option.map_some, if_true, if_false, decide_true, decide_false, Bool.not_true, Bool.not_false, Bool.true_or, Bool.false_or, Bool.or_true, Bool.or_false, Bool.true_and, Bool.false_and, Bool.and_true, Bool.and_false, beq_self_eq_true, opAdd, opSub, opNeg, opLt, opLe, opGt, opGe, opIx, fLen, fAbs, fMax2, fMin2, fIsi, tyN, fList, fTuple, fDictP, opCat, opCatT, lstC, fKeys, fKeysS, fSorted, xPairs, xDisp, xUpdate, sForK, gLp, fKeysT, opRevT, iEnumT, keyOf, keyV, opIsBl, opNotBl, dictK, st_NoneType_bool, st_NoneType_int, st_NoneType_str, st_NoneType_tuple, st_NoneType_list, st_NoneType_dict, st_bool_bool, st_bool_int, st_bool_str, st_bool_tuple, st_bool_list, st_bool_dict, st_int_bool, st_int_int, st_int_str, st_int_tuple, st_int_list, st_int_dict, st_str_bool, st_str_int, st_str_str, st_str_tuple, st_str_list, st_str_dict, st_tuple_bool, st_tuple_int, st_tuple_str, st_tuple_tuple, st_tuple_list, st_tuple_dict, st_list_bool, st_list_int, st_list_str, st_list_tuple, st_list_list, st_list_dict, st_dict_bool, st_dict_int, st_dict_str, st_dict_tuple, st_dict_list, st_dict_dict, frV, at_0, at_1, mul_ok, e]
theorem belowG {j k : Int} {x y : MV} (J : Bk j) (K : Bk k) (hx : FrG j x) (hy : FrG k y) (h : MH) : g_is_below [x, y] h = some (.bl (decide (j < k)), h) := by
  obtain ⟨⟨_, _⟩, _, _⟩ := fr_fine J
  obtain ⟨⟨_, _⟩, _, _⟩ := fr_fine K
  have e : decide (j < k) = decide ((fr j).1 * (fr k).2 < (fr k).1 * (fr j).2) := by rw [decide_eq_decide]; exact (fr_lt j k).symm
  rw [e]
  rcases hx with rfl | rfl <;> rcases hy with rfl | rfl <;> unfold g_is_below b_is_below <;> simp (discharger := omega) only [sSeq, sAsg, sIf, sRet, sRetN, sExpr, sNext, sPar, sPar3, sBk, sCt, sFor, sPut, gNm, gTp, gsCons, gsNil, xVar, xC, xOp, xUn, xCons, xNil, xArgs, xCall, xTup, xLst, xBox, boxM, xIf, xAnd, xOr, xNot, xB, xAndT, xOrT, xNotT, xAppend, xPop, xPopAt, xExtend, xExtendT, xSlL, xPart, xNoPart, iSeq, iRange1, iRange2, cYes, seqOf, listOf, isLstC, runDef, sBegin, List.map_cons, List.map_nil, List.length_cons, List.length_nil, List.getElem?_cons_zero, List.getElem?_cons_succ, List.getElem?_nil, List.set_cons_zero, List.set_cons_succ, List.cons_append, List.nil_append, List.append_nil, Nat.sub_self, Nat.zero_add, Nat.reduceAdd, Nat.reduceSub, Nat.add_one_sub_one, List.replicate_zero, List.replicate_succ, Option.map_some, if_true, if_false, decide_true, decide_false, Bool.not_true, Bool.not_false, Bool.true_or, Bool.false_or, Bool.or_true, Bool.or_false, Bool.true_and, Bool.false_and, Bool.and_true, Bool.and_false, beq_self_eq_true, opAdd, opSub, opNeg, opLt, opLe, opGt, opGe, opIx, fLen, fAbs, fMax2, fMin2, fIsi, tyN, fList, fTuple, fDictP, opCat, opCatT, lstC, fKeys, fKeysS, fSorted, xPairs, xDisp, xUpdate, sForK, gLp, fKeysT, opRevT, iEnumT, keyOf, keyV, opIsBl, opNotBl, dictK, st_NoneType_bool, st_NoneType_int, st_NoneType_str, st_NoneType_tuple, st_NoneType_list, st_NoneType_dict, st_bool_bool, st_bool_int, st_bool_str, st_bool_tuple, st_bool_list, st_bool_dict, st_int_bool, st_int_int, st_int_str, st_int_tuple, st_int_list, st_int_dict, st_str_bool, st_str_int, st_str_str, st_str_tuple, st_str_list, st_str_dict, st_tuple_bool, st_tuple_int, st_tuple_str, st_tuple_tuple, st_tuple_list, st_tuple_dict, st_list_bool, st_list_int, st_list_str, st_list_tuple, st_list_list, st_list_dict, st_dict_bool, st_dict_int, st_dict_str, st_dict_tuple, st_dict_list, st_dict_dict, frV, at_0, at_1, mul_ok]
theorem sumG {j k : Int} {x y : MV} (J : Bk j) (K : Bk k) (hx : FrG j x) (hy : FrG k y) (h : MH) : g__law_sum [x, y] h = some (frV (fr (j + k)), h) := by
  obtain ⟨⟨_, _⟩, _, _⟩ := fr_fine J
  obtain ⟨⟨_, _⟩, _, _⟩ := fr_fine K
  have e := low_at ((fr j).1 * (fr k).2 + (fr k).1 * (fr j).2) ((fr j).2 * (fr k).2) h (mul_pos' (by assumption) (by assumption)) (by
    have := (mul_bd (a := (fr j).2) (b := (fr k).2) (A := 9690712164777231700912800) (B := 9690712164777231700912800) (by omega) (by omega) (by omega) (by omega)).2
    omega)
  rw [fr_sum] at e
  rcases hx with rfl | rfl <;> rcases hy with rfl | rfl <;> unfold g__law_sum b__law_sum <;> simp (discharger := omega) only [sSeq, sAsg, sIf, sRet, sRetN, sExpr, sNext, sPar, sPar3, sBk, sCt, sFor, sPut, gNm, gTp, gsCons, gsNil, xVar, xC, xOp, xUn, xCons, xNil, xArgs, xCall, xTup, xLst, xBox, boxM, xIf, xAnd, xOr, xNot, xB, xAndT, xOrT, xNotT, xAppend, xPop, xPopAt, xExtend, xExtendT, xSlL, xPart, xNoPart, iSeq, iRange1, iRange2, cYes, seqOf, listOf, isLstC, runDef, sBegin, List.map_cons, List.map_nil, List.length_cons, List.length_nil, List.getElem?_cons_zero, List.getElem?_cons_succ, List.getElem?_nil, List.set_cons_zero, List.set_cons_succ, List.cons_append, List.nil_append, List.append_nil, Nat.sub_self, Nat.zero_add, Nat.reduceAdd, Nat.reduceSub, Nat.add_one_sub_one, List.replicate_zero, List.replicate_succ, Option.map_some, if_true, if_false, decide_true, decide_false, Bool.not_true, Bool.not_false, Bool.true_or, Bool.false_or, Bool.or_true, Bool.or_false, Bool.true_and, Bool.false_and, Bool.and_true, Bool.and_false, beq_self_eq_true, opAdd, opSub, opNeg, opLt, opLe, opGt, opGe, opIx, fLen, fAbs, fMax2, fMin2, fIsi, tyN, fList, fTuple, fDictP, opCat, opCatT, lstC, fKeys, fKeysS, fSorted, xPairs, xDisp, xUpdate, sForK, gLp, fKeysT, opRevT, iEnumT, keyOf, keyV, opIsBl, opNotBl, dictK, st_NoneType_bool, st_NoneType_int, st_NoneType_str, st_NoneType_tuple, st_NoneType_list, st_NoneType_dict, st_bool_bool, st_bool_int, st_bool_str, st_bool_tuple, st_bool_list, st_bool_dict, st_int_bool, st_int_int, st_int_str, st_int_tuple, st_int_list, st_int_dict, st_str_bool, st_str_int, st_str_str, st_str_tuple, st_str_list, st_str_dict, st_tuple_bool, st_tuple_int, st_tuple_str, st_tuple_tuple, st_tuple_list, st_tuple_dict, st_list_bool, st_list_int, st_list_str, st_list_tuple, st_list_list, st_list_dict, st_dict_bool, st_dict_int, st_dict_str, st_dict_tuple, st_dict_list, st_dict_dict, frV, at_0, at_1, mul_ok, e]
theorem eqG {j k : Int} {x y : MV} (hx : FrG j x) (hy : FrG k y) (h : MH) : opEq h x y = some (.bl (decide (j = k))) ∧ opNe h x y = some (.bl (!decide (j = k))) := by
  have hb : ((fr j).1 == (fr k).1 && (fr j).2 == (fr k).2) = decide (j = k) := by
    by_cases q : j = k
    · subst q; simp
    · rw [decide_eq_false q]
      cases e : ((fr j).1 == (fr k).1 && (fr j).2 == (fr k).2) with
      | false => rfl
      | true =>
        rw [Bool.and_eq_true, beq_iff_eq, beq_iff_eq] at e
        exact absurd (fr_inj (Prod.ext e.1 e.2)) q
  rw [← hb]
  rcases hx with rfl | rfl <;> rcases hy with rfl | rfl <;> refine ⟨?_, ?_⟩ <;> simp [opEq, opNe, opEq0, opNe0, dictK, rdM, eqM, isD, isDs, eqD, eqDs]
/-- a row's first two -/
theorem wrow_has {s : Int} {f : Int → Int} {g : Int → Option (Int × Int)} {p : Int} (s0 : f s = 0) (a : hasB s g p = true) : ∃ x z, FrG (f p) x ∧ wrow s f g p = .tup [x, .int (stpR s g p), z] := by
  unfold wrow stpR
  unfold hasB at a
  by_cases q : p = s
  · rw [if_pos q, if_pos q, q, s0]
    exact ⟨_, _, frG_0, rfl⟩
  · rw [decide_eq_false q, Bool.false_or] at a
    obtain ⟨y, e⟩ := Option.isSome_iff_exists.mp a
    rw [if_neg q, if_neg q, e]
    exact ⟨_, _, frG_fr _, rfl⟩
theorem wrow_non {s : Int} {f : Int → Int} {g : Int → Option (Int × Int)} {p : Int} (a : hasB s g p = false) : wrow s f g p = .non := by
  rcases wrow_cases s f g p with ⟨_, _, _, e⟩ | ⟨b, _⟩
  · exact e
  · rw [a] at b; cases b
def natV : Option Nat → MV
  | none => .non
  | some b => .int (b : Nat)
theorem nearest_at {W : WL} {s : Int} {f : Int → Int} {g : Int → Option (Int × Int)} (s0 : f s = 0) (hb : ∀ p, hasB s g p = true → Bk (f p)) {left : List Int} (sub : ∀ p ∈ left, p ∈ keysOf' W) (ll : left.length ≤ 1000) (h : MH) (m n : Nat) (em : h[m]? = some (.dK (mapV (keysOf' W) (wrow s f g)))) (en : h[n]? = some (.lst (left.map .int))) :
    g_nearest [.ref m, .ref n] h = some (natV (nearS (hasB s g) f left left.length), h) := by
  have ln : fLen h [.ref n] = some (.int (left.length : Nat)) := by simp [fLen, seqOf, listOf, en]
  refine we_eq (d_nearest ?_)
  unfold b_nearest
  show wp
  show wr ln
  refine wfor (fun i S h1 => ∃ o3 o4, S = [some (.ref m), some (.ref n), some (natV (nearS (hasB s g) f left i)), o3, o4] ∧ h1 = h) ⟨none, none, rfl, rfl⟩ ?_ ?_
  · rintro i x S h1 ex ⟨o3, o4, rfl, rfl⟩
    obtain ⟨rfl, hi⟩ := rng_at ex
    have hi2 : i < left.length := by omega
    obtain ⟨v, ev⟩ : ∃ v, left[i]? = some v := ⟨_, List.getElem?_eq_getElem hi2⟩
    have vk := sub v (List.mem_of_getElem? ev)
    have at_ : ∀ (j : Nat) (p : Int), left[j]? = some p → opIx h1 (.ref n) (.int (j : Nat)) = some (.int p) := fun j p e => (ix_ref en).trans (at_nat (by rw [List.getElem?_map, e]; rfl))
    have e1 := at_ i v ev
    have eN : nearS (hasB s g) f left (i + 1) = if hasB s g v && bettr f left v (nearS (hasB s g) f left i) then some i else nearS (hasB s g) f left i := by
      rw [nearS, ev]
    rw [Int.zero_add]
    unfold B1_nearest
    show wp
    show wr e1
    show wr (ix_farC em vk)
    cases hB : hasB s g v with
    | false =>
      rw [wrow_non hB]
      show wp
      refine ⟨.inl rfl, some (.int (i : Nat)), some .non, ?_, rfl⟩
      rw [eN, hB]; rfl
    | true =>
      obtain ⟨x, z, hx, ew⟩ := wrow_has s0 hB
      rw [ew]
      show wp
      cases eo : nearS (hasB s g) f left i with
      | none =>
        have fin : natV (nearS (hasB s g) f left (i + 1)) = .int (i : Nat) := by rw [eN, hB, eo]; rfl
        rw [fin, show natV none = MV.non from rfl]
        show wp
        exact ⟨.inl rfl, some (.int (i : Nat)), some (.tup [x, .int (stpR s g v), z]), rfl, rfl⟩
      | some b =>
        obtain ⟨bi, q, eb, hq, _⟩ := near_some i b eo
        have qk := sub q (List.mem_of_getElem? eb)
        obtain ⟨x2, z2, hx2, ew2⟩ := wrow_has s0 hq
        have gb : bettr f left v (some b) = decide (f v < f q) := by
          show decide (f v < f (left.getD b 0)) = decide (f v < f q)
          rw [List.getD_eq_getElem?_getD, eb, Option.getD_some]
        have fin : natV (nearS (hasB s g) f left (i + 1)) = if f v < f q then .int (i : Nat) else .int (b : Nat) := by
          rw [eN, hB, eo, gb]
          by_cases lt : f v < f q
          · rw [decide_eq_true lt, if_pos lt]; rfl
          · rw [decide_eq_false lt, if_neg lt]; rfl
        rw [fin, show natV (some b) = MV.int (b : Nat) from rfl]
        show wp
        show wr (at_ b q eb)
        show wr (ix_farC em qk)
        rw [ew2]
        show wp
        show wr (belowG (hb v hB) (hb q hq) hx hx2 _)
        by_cases lt : f v < f q
        · rw [decide_eq_true lt, if_pos lt]
          show wp
          exact ⟨.inl rfl, some (.int (i : Nat)), some (.tup [x, .int (stpR s g v), z]), rfl, rfl⟩
        · rw [decide_eq_false lt, if_neg lt]
          show wp
          exact ⟨.inl rfl, some (.int (i : Nat)), some (.tup [x, .int (stpR s g v), z]), rfl, rfl⟩
  · rintro S h1 ⟨o3, o4, rfl, rfl⟩
    rw [rng_len, Int.toNat_natCast]
    show wp
    exact ⟨rfl, rfl⟩
theorem wrow_upd2 {s : Int} {f : Int → Int} {g : Int → Option (Int × Int)} {v st u k : Int} (vs : v ≠ s) : updI (wrow s f g) v (.tup [frV (fr k), .int st, .int u]) = wrow s (updI f v k) (updI g v (some (st, u))) := by
  funext p
  unfold updI wrow
  by_cases q : p = v
  · subst q
    simp [vs]
  · simp only [if_neg q]
theorem dj_bk {W : WL} {ℓ : Int → Int → Int} {s : Int} {left : List Int} {f : Int → Int} {g : Int → Option (Int × Int)} (i : DjI W ℓ BL s left f g) (kl : W.length ≤ 12) {p : Int} (hp : hasR s g p) : 0 ≤ f p ∧ f p ≤ 12 * BL := by
  obtain ⟨h1, h2, h3⟩ := i.nn p hp
  have h4 := i.sz p hp
  have : stpR s g p * BL ≤ 12 * BL := Int.mul_le_mul_of_nonneg_right (by omega) (by decide)
  exact ⟨h1, by omega⟩
theorem bk12 {k : Int} (h : 0 ≤ k ∧ k ≤ 12 * BL) : Bk k := ⟨h.1, by have := h.2; unfold BL at this; omega⟩
theorem bk24 {j k : Int} (h : 0 ≤ j ∧ j ≤ 12 * BL) (h2 : 0 ≤ k ∧ k ≤ BL) : Bk (j + k) := ⟨by omega, by have := h.2; have := h2.2; unfold BL at *; omega⟩
theorem reach_at {W : WL} (w : Web W) (kl : W.length ≤ 12) {L : Int × Int → Int} (hL : ∀ p, 0 ≤ L p ∧ L p ≤ BL) {s : Int} {left : List Int} {f : Int → Int} {g : Int → Option (Int × Int)} (i : DjI W (symL L) BL s left f g) {p : Int} (pl : p ∈ left) (hp : hasR s g p) (mn : ∀ v ∈ left, hasR s g v → f p ≤ f v) (h : MH) (m : Nat) (em : h[m]? = some (.dK (mapV (keysOf' W) (wrow s f g)))) :
    We (g_reach_from [.dK (websV W), .dT (lenT (tiesOf W) L), .ref m, .int p] h) fun _ h' => h' = h.set m (.dK (mapV (keysOf' W) (wrow s (reachS (symL L) s p (f p) (stpR s g p) (rowsAt W p) (f, g)).1 (reachS (symL L) s p (f p) (stpR s g p) (rowsAt W p) (f, g)).2))) := by
  have l0 : ∀ u v, v ∈ rowsAt W u → 0 ≤ symL L u v ∧ symL L u v ≤ BL := fun u v _ => hL _
  have pk := i.sub p pl
  obtain ⟨r, er⟩ := mem_rowOf pk
  have ra := rowsAt_of er
  obtain ⟨x, z, hx, ew⟩ := wrow_has i.s0 (hasB_iff.mpr hp)
  have hm : m < h.length := (List.getElem?_eq_some_iff.mp em).1
  refine d_reach_from ?_
  unfold b_reach_from
  show wp
  show wr (ix_farC em pk)
  rw [ew]
  show wp
  show wr (ix_websV er)
  refine wfor (fun j S h1 => ∃ o7 o8, S = [some (.dK (websV W)), some (.dT (lenT (tiesOf W) L)), some (.ref m), some (.int p), some x, some (.int (stpR s g p)), some z, o7, o8] ∧ h1 = h.set m (.dK (mapV (keysOf' W) (wrow s (reachS (symL L) s p (f p) (stpR s g p) (r.take j) (f, g)).1 (reachS (symL L) s p (f p) (stpR s g p) (r.take j) (f, g)).2)))) ⟨none, none, rfl, ?_⟩ ?_ ?_
  · rw [List.take_zero]
    show h = h.set m (.dK (mapV (keysOf' W) (wrow s f g)))
    obtain ⟨h1, h2⟩ := List.getElem?_eq_some_iff.mp em
    rw [← h2, List.set_getElem_self]
  · rintro j y S h1 ex ⟨o7, o8, rfl, rfl⟩
    rw [List.getElem?_map] at ex
    cases ev : r[j]? with
    | none => rw [ev] at ex; cases ex
    | some v =>
      rw [ev] at ex; cases ex
      have hv : v ∈ rowsAt W p := by rw [ra]; exact List.mem_of_getElem? ev
      have vk := (rows_key w hv).1
      have R := reach_all (ℓ := symL L) (s := s) (p := p) (k := f p) (st := stpR s g p) (r.take j) (f, g)
      have eN : reachS (symL L) s p (f p) (stpR s g p) (r.take (j + 1)) (f, g) = stepS (symL L) s p (f p) (stpR s g p) (reachS (symL L) s p (f p) (stpR s g p) (r.take j) (f, g)) v := by
        unfold reachS
        rw [take_snoc ev, List.foldl_append]; rfl
      rw [eN]
      generalize reachS (symL L) s p (f p) (stpR s g p) (r.take j) (f, g) = q at R
      obtain ⟨f', g'⟩ := q
      have chf := R.ch
      simp only at chf
      have s0' : f' s = 0 := by
        rcases chf s with ⟨h1, _⟩ | ⟨h1, _, _, h2⟩
        · rw [h1]; exact i.s0
        · rcases h2 with c | c
          · simp [hasB] at c
          · have a := i.s0
            have b := (i.nn p hp).1
            have d := (l0 p s (by rw [ra]; exact List.mem_of_mem_take h1)).1
            omega
      have bp := dj_bk i kl hp
      have bl := l0 p v hv
      have em' : (h.set m (.dK (mapV (keysOf' W) (wrow s f' g'))))[m]? = some (.dK (mapV (keysOf' W) (wrow s f' g'))) := get_set hm
      have put := put_mapU (h := h.set m (.dK (mapV (keysOf' W) (wrow s f' g')))) (m := m) (ks := keysOf' W) (f := wrow s f' g') (v := v) (x := .tup [frV (fr (f p + symL L p v)), .int (stpR s g p + 1), .int p]) em' (by rw [keys_len]; omega) vk
      rw [List.set_set] at put
      have vs : hasB s g' v = false ∨ f p + symL L p v < f' v → v ≠ s := fun c z => by
        subst z
        rcases c with c | c
        · simp [hasB] at c
        · have := (i.nn p hp).1
          omega
      unfold B1_reach_from
      show wp
      show wr (tlen_at w hv _)
      show wr (addedG (bk12 bp) (bk_len hL p v) hx (frG_fr _) _)
      show wr (ix_farC em' vk)
      cases hB : hasB s g' v with
      | false =>
        rw [wrow_non hB]
        show wp
        rw [wrow_upd2 (vs (.inl hB))] at put
        show wr put
        refine ⟨.inl rfl, _, _, rfl, ?_⟩
        unfold stepS
        rw [if_pos (by simp [hB])]
      | true =>
        obtain ⟨x2, z2, hx2, ew2⟩ := wrow_has (f := f') (g := g') s0' hB
        have bv : Bk (f' v) := by
          rcases chf v with ⟨h1, h2⟩ | ⟨_, h1, _, _⟩
          · rw [h1]
            refine bk12 (dj_bk i kl (hasB_iff.mp ?_))
            unfold hasB at hB ⊢
            rw [h2] at hB
            exact hB
          · rw [h1]
            exact bk24 bp bl
        rw [ew2]
        show wp
        show wr (ix_farC em' vk)
        rw [ew2]
        show wp
        show wr (belowG (bk24 bp bl) bv (frG_fr _) hx2 _)
        by_cases lt : f p + symL L p v < f' v
        · rw [decide_eq_true lt]
          show wp
          rw [wrow_upd2 (vs (.inr lt))] at put
          show wr put
          refine ⟨.inl rfl, _, _, rfl, ?_⟩
          unfold stepS
          rw [if_pos (by simp [lt])]
        · rw [decide_eq_false lt]
          show wp
          refine ⟨.inl rfl, _, _, rfl, ?_⟩
          unfold stepS
          rw [if_neg (by simp [hB, lt])]
  · rintro S h1 ⟨o7, o8, rfl, rfl⟩
    rw [List.length_map, List.take_length, ← ra]
    show wp
    rfl
theorem erase_map7 {α β : Type} (f : α → β) : ∀ (xs : List α) (b : Nat), (xs.map f).eraseIdx b = (xs.eraseIdx b).map f
  | [], b => by simp
  | x :: xs, 0 => rfl
  | x :: xs, b + 1 => by simp [erase_map7 f xs b]
theorem ways_at {W : WL} (w : Web W) (kl : W.length ≤ 12) {L : Int × Int → Int} (hL : ∀ p, 0 ≤ L p ∧ L p ≤ BL) {s : Int} (hs : s ∈ keysOf' W) :
    ∃ ks f g, FarOk W (symL L) BL s ks f ∧ WayOk W (symL L) s ks f g ∧ ∀ h, (toldF g_ways) [.dK (websV W), .dT (lenT (tiesOf W) L), .int s] h = some (.dK (mapV (keysOf' W) (wrow s f g)), h) := by
  have l0 : ∀ u v, v ∈ rowsAt W u → 0 ≤ symL L u v ∧ symL L u v ≤ BL := fun u v _ => hL _
  have lk := keys_len W
  have ls := (sortI_perm (keysOf' W)).length_eq
  generalize hq : dijF W (symL L) s (W.length + 1) (sortI (keysOf' W)) (fun _ => 0, fun _ => none) = Z
  have raw : ∀ h, We (g_ways [.dK (websV W), .dT (lenT (tiesOf W) L), .int s] h) fun r h' => r = .ref h.length ∧ (FarOk W (symL L) BL s ((keysOf' W).filter (hasB s Z.2)) Z.1 ∧ WayOk W (symL L) s ((keysOf' W).filter (hasB s Z.2)) Z.1 Z.2) ∧ ∃ c, h' = h ++ [.dK (mapV (keysOf' W) (wrow s Z.1 Z.2)), c] := fun h => by
    refine d_ways ?_
    unfold b_ways
    show wp
    refine wp_forK (kvs := websV W) rfl ?_
    rw [keysV_webs]
    refine wfor (fun i S h1 => ∃ o4, S = [some (.dK (websV W)), some (.dT (lenT (tiesOf W) L)), some (.int s), some (.ref h.length), o4, none, none] ∧ h1 = h ++ [.dK (mapV ((keysOf' W).take i) fun _ => .non)]) ⟨none, rfl, rfl⟩ ?_ ?_
    · rintro i x S h1 ex ⟨o4, rfl, rfl⟩
      rw [List.getElem?_map] at ex
      cases ep : (keysOf' W)[i]? with
      | none => rw [ep] at ex; cases ex
      | some p =>
        rw [ep] at ex; cases ex
        have np : p ∉ (keysOf' W).take i := fun z => by
          have nd2 : ((keysOf' W).take (i + 1)).Nodup := w.nd.sublist (List.take_sublist _ _)
          rw [take_snoc ep, List.nodup_append] at nd2
          exact nd2.2.2 p z p (by simp) rfl
        have pw := put_mapV (h := h ++ [.dK (mapV ((keysOf' W).take i) fun _ => .non)]) (m := h.length) (ks := (keysOf' W).take i) (f := fun _ => .non) (p := p) (v := .non) get_last np (by rw [List.length_take]; unfold szLine; omega)
        rw [set_last, show mapV ((keysOf' W).take i) (fun _ => MV.non) ++ [(.inl p, .non)] = mapV ((keysOf' W).take (i + 1)) fun _ => .non by rw [take_snoc ep]; simp [mapV]] at pw
        unfold B1_ways
        show wp
        show wr pw
        exact ⟨.inl rfl, _, rfl, rfl⟩
    · rintro S h1 ⟨o4, rfl, rfl⟩
      rw [List.length_map, List.take_length]
      have ps := put_mapU (h := h ++ [.dK (mapV (keysOf' W) fun _ => .non)]) (m := h.length) (ks := keysOf' W) (f := fun _ => .non) (v := s) (x := .tup [.row [.int 0, .int 1], .int 0, .non]) get_last (by omega) hs
      rw [set_last, wrow_start s fun _ => 0] at ps
      show wp
      show wr ps
      have l1 : (h ++ [MC.dK (mapV (keysOf' W) (wrow s (fun _ => 0) fun _ => none))]).length = h.length + 1 := by simp
      rw [l1, show (h ++ [MC.dK (mapV (keysOf' W) (wrow s (fun _ => 0) fun _ => none))]) ++ [.lst ((sortI (keysOf' W)).map .int)] = h ++ [.dK (mapV (keysOf' W) (wrow s (fun _ => 0) fun _ => none)), .lst ((sortI (keysOf' W)).map .int)] by simp]
      have I0 := DjI.start (s := s) (B := BL) (ℓ := symL L) w
      have near : ∀ {left : List Int} {f : Int → Int} {g : Int → Option (Int × Int)}, DjI W (symL L) BL s left f g → g_nearest [.ref h.length, .ref (h.length + 1)] (h ++ [.dK (mapV (keysOf' W) (wrow s f g)), .lst (left.map .int)]) = some (natV (nearS (hasB s g) f left left.length), h ++ [.dK (mapV (keysOf' W) (wrow s f g)), .lst (left.map .int)]) := fun {left f g} i => by
        have l2 := sub_len' i.nd i.sub
        exact nearest_at i.s0 (fun p hp => bk12 (dj_bk i kl (hasB_iff.mp hp))) i.sub (by omega) _ _ _ (by simp) (by simp)
      show wr (near I0)
      refine wwhileN (fun n S h1 => ∃ left f g o4, DjI W (symL L) BL s left f g ∧ left.length < n ∧ dijF W (symL L) s n left (f, g) = Z ∧ S = [some (.dK (websV W)), some (.dT (lenT (tiesOf W) L)), some (.int s), some (.ref h.length), o4, some (.ref (h.length + 1)), some (natV (nearS (hasB s g) f left left.length))] ∧ h1 = h ++ [.dK (mapV (keysOf' W) (wrow s f g)), .lst (left.map .int)]) (W.length + 1) ⟨_, _, _, _, I0, by omega, hq, rfl, rfl⟩ ?_
      rintro n S h1 ⟨left, f, g, o4, i, hn, ez, rfl, rfl⟩
      obtain ⟨n, rfl⟩ : ∃ m, n = m + 1 := ⟨n - 1, by omega⟩
      rw [dijF] at ez
      unfold W2_ways
      cases eo : nearS (hasB s g) f left left.length with
      | none =>
        simp only [eo] at ez
        rw [show natV none = MV.non from rfl]
        show wp
        subst ez
        refine ⟨rfl, i.done w (by decide) hs fun v hv => near_none _ eo v (by rw [List.take_length]; exact hv), _, rfl⟩
      | some b =>
        simp only [eo] at ez
        obtain ⟨bl, p, eb, hp, mn⟩ := near_some _ b eo
        rw [List.take_length] at mn
        have gp : left.getD b 0 = p := by rw [List.getD_eq_getElem?_getD, eb, Option.getD_some]
        rw [gp] at ez
        have hp' := hasB_iff.mp hp
        have mn' : ∀ v ∈ left, hasR s g v → f p ≤ f v := fun v hv hr => mn v hv (hasB_iff.mpr hr)
        have R := reach_all (ℓ := symL L) (s := s) (p := p) (k := f p) (st := stpR s g p) (rowsAt W p) (f, g)
        have i2 := i.next w l0 eb hp' mn' R
        have re := reach_at w kl hL i (List.mem_of_getElem? eb) hp' mn' (h ++ [.dK (mapV (keysOf' W) (wrow s f g)), .lst ((left.eraseIdx b).map .int)]) h.length (by simp)
        generalize reachS (symL L) s p (f p) (stpR s g p) (rowsAt W p) (f, g) = q at R i2 re ez
        obtain ⟨f', g'⟩ := q
        simp only at i2 re
        rw [show (h ++ [.dK (mapV (keysOf' W) (wrow s f g)), MC.lst ((left.eraseIdx b).map MV.int)]).set h.length (.dK (mapV (keysOf' W) (wrow s f' g'))) = h ++ [.dK (mapV (keysOf' W) (wrow s f' g')), .lst ((left.eraseIdx b).map .int)] by simp] at re
        have l2 := sub_len' i.nd i.sub
        have ll : (left.eraseIdx b).length + 1 = left.length := by rw [List.length_eraseIdx_of_lt bl]; omega
        have pa : ∀ S : SM, S[5]? = some (some (.ref (h.length + 1))) → S[6]? = some (some (.int (b : Nat))) → xPopAt (xVar 5) (xVar 6) S (h ++ [.dK (mapV (keysOf' W) (wrow s f g)), .lst (left.map .int)]) = some (.int p, h ++ [.dK (mapV (keysOf' W) (wrow s f g)), .lst ((left.eraseIdx b).map .int)]) := fun S e5 e6 => by
          have b1 : -(2 ^ 62 : Int) ≤ (b : Nat) ∧ ((b : Nat) : Int) < 2 ^ 62 := ⟨by omega, by omega⟩
          have eg : (h ++ [.dK (mapV (keysOf' W) (wrow s f g)), MC.lst (left.map MV.int)])[h.length + 1]? = some (.lst (left.map .int)) := by simp
          have eix : ixM (left.map MV.int).length ((b : Nat) : Int) = some b := by
            unfold ixM
            rw [if_pos (by omega), if_pos (by rw [List.length_map]; omega), Int.toNat_natCast]
          simp only [xPopAt, xVar, e5, e6, isLstC, eg, if_true, if_pos b1, eix, List.getElem?_map, eb, Option.map_some]
          simp [erase_map7]
        rw [show natV (some b) = MV.int (b : Nat) from rfl]
        show wp
        unfold B2_ways
        show wp
        show wr (pa _ rfl rfl)
        refine we_mono re fun _ h' eh => ?_
        subst eh
        show wp
        show wr (near i2)
        exact ⟨.inl rfl, n, by omega, _, _, _, _, i2, by omega, ez, rfl, rfl⟩
  obtain ⟨r, h', er, _, ok, _⟩ := raw []
  refine ⟨_, Z.1, Z.2, ok.1, ok.2, fun h => ?_⟩
  obtain ⟨r, h', er, rfl, _, c, rfl⟩ := raw h
  exact toldF_dK er (by simp) (Nat.le_refl _) (plain_mapV (fun p => by unfold wrow; split; · rfl
                                                                       · split <;> rfl) _) rfl same_plain
/-! ### the law's look -/
theorem wp_forKm {n m : Nat} {g : XG} {b : XS} {s : SM} {h : MH} {kvs : List (MK × MV)} {Q : Fl → SM → MH → Prop} (e2 : h[m]? = some (.dK kvs)) (w : Wp (forGo g b (kvs.map fun kv => keyV kv.1) s (h.set m (.lkK kvs))) fun f s' h' => ∃ kvs', h'[m]? = some (.lkK kvs') ∧ Q f s' (h'.set m (.dK kvs'))) (e1 : s[n]? = some (some (.ref m)) := by rfl) : Wp (sForK n g b s h) Q := by
  obtain ⟨f, s', h', e, kvs', e4, q⟩ := w
  exact ⟨f, s', _, by simp only [sForK, e1, e2, e, e4], q⟩
theorem low_fr {k : Int} {x : MV} (K : Bk k) (hx : FrG k x) (h : MH) : g__law_is_length [x] h = some (.bl true, h) := by
  obtain ⟨⟨_, _⟩, _, _⟩ := fr_fine K
  have e := low_at (fr k).1 (fr k).2 h (by omega) (by omega)
  have e2 : lowOf (fr k).1 (fr k).2 = fr k := by
    unfold lowOf
    rw [fr_gcd]
    exact Prod.ext (Int.ediv_one _) (Int.ediv_one _)
  rw [e2] at e
  have eq := (eqG hx (frG_fr k) h).1
  rw [decide_eq_true rfl] at eq
  refine we_eq (d__law_is_length ?_)
  unfold b__law_is_length
  rcases hx with rfl | rfl
  all_goals
    show wp
    refine br_f (by simp) ?_
    show wp
    refine wforR (fun i S h1 => ∃ o1, S = [some _, o1] ∧ h1 = h) ⟨none, rfl, rfl⟩ ?_ ?_
    · rintro i y S h1 ex ⟨o1, rfl, rfl⟩
      obtain ⟨j, rfl⟩ : ∃ j, y = .int j := by
        rcases i with _ | _ | i
        · exact ⟨_, (Option.some.inj ex).symm⟩
        · exact ⟨_, (Option.some.inj ex).symm⟩
        · simp at ex
      unfold B1__law_is_length
      show wp
      exact .inl ⟨.inl rfl, _, rfl, rfl⟩
    · rintro S h1 ⟨o1, rfl, rfl⟩
      show wp
      refine br_t (by simp; assumption) ?_
      show wp
      show wr e
      show wr eq
      exact ⟨rfl, rfl⟩
theorem shaped_at {k st : Int} {x z : MV} (K : Bk k) (hx : FrG k x) (h : MH) : g__law_row_shaped [.tup [x, .int st, z]] h = some (.bl true, h) := by
  refine we_eq (d__law_row_shaped ?_)
  unfold b__law_row_shaped
  show wp
  refine br_f (by simp) ?_
  show wp
  show wr (low_fr K hx h)
  exact ⟨rfl, rfl⟩
section
variable {W : WL} (w : Web W) (nW : Names (keysOf' W)) (kl : W.length ≤ 12) {L : Int × Int → Int} (hL : ∀ p, 0 ≤ L p ∧ L p ≤ BL) {s : Int} (hs : s ∈ keysOf' W) {ks : List Int} {f : Int → Int} {g : Int → Option (Int × Int)} (F : FarOk W (symL L) BL s ks f) (O : WayOk W (symL L) s ks f g) (h : MH) (m : Nat) (em : h[m]? = some (.dK (mapV (keysOf' W) (wrow s f g))))
theorem wrow_some {s : Int} {f : Int → Int} {g : Int → Option (Int × Int)} {p st u : Int} (ps : p ≠ s) (e : g p = some (st, u)) : wrow s f g p = .tup [frV (fr (f p)), .int st, .int u] := by
  unfold wrow
  rw [if_neg ps, e]
include w F O kl hL em in
theorem fits_at {p : Int} (ps : p ≠ s) (pk : p ∈ ks) : g__law_row_fits [.dK (websV W), .dT (lenT (tiesOf W) L), .ref m, .int p] h = some (.bl true, h) := by
  obtain ⟨st, u, eg, uk, hup, e1, e2, e3⟩ := O.steps F pk ps
  have hu := O.all u uk
  have pK := F.sub p pk
  obtain ⟨r, er⟩ := mem_rowOf pK
  have ra := rowsAt_of er
  obtain ⟨x, z, hx, ew⟩ := wrow_has F.s0 (hasB_iff.mpr hu)
  refine we_eq (d__law_row_fits ?_)
  unfold b__law_row_fits
  show wp
  show wr (ix_farC em pK)
  rw [wrow_some ps eg]
  show wp
  show wr (ix_websV er)
  refine br_f (by simp; rw [← ra]; exact hup) ?_
  show wp
  show wr (ix_farC em (F.sub u uk))
  rw [ew]
  show wp
  show wr (ix_farC em (F.sub u uk))
  rw [ew]
  show wp
  have il : opIx h (.dT (lenT (tiesOf W) L)) (.tup [.int (if p < u then p else u), .int (if p > u then p else u)]) = some (frV (fr (symL L u p))) := ix_len w (rows_sym w hup) h
  show wr il
  show wr (sumG (bk12 (bk_ok F kl uk)) (bk_len hL u p) hx (frG_fr _) _)
  rw [e1]
  show wr (eqG (frG_fr (f p)) (frG_fr (f p)) h).1
  rw [decide_eq_true rfl]
  show wp
  show wr (ix_farC em (F.sub u uk))
  rw [ew]
  show wp
  refine ⟨?_, rfl⟩
  rw [e2, decide_eq_true rfl]
include w nW F O kl hL hs em in
theorem waypaper_at : g__law_is_way_paper [.dK (websV W), .dT (lenT (tiesOf W) L), .int s, .ref m] h = some (.bl true, h) := by
  have hm : m < h.length := (List.getElem?_eq_some_iff.mp em).1
  have lv : ∀ k (f : Int → MV), (mapV k f).length = k.length := fun k f => by unfold mapV; rw [List.length_map]
  have ln : fLen h [.ref m] = some (.int (W.length : Nat)) := by simp [fLen, seqOf, listOf, dictK, em, lv, keys_len]
  have gk : ∀ p ∈ keysOf' W, hasB s g p = true → p ∈ ks := fun p hp hB => by
    rcases hasB_iff.mp hB with z | z
    · rw [z]; exact F.si
    · obtain ⟨⟨st, u⟩, e⟩ := Option.isSome_iff_exists.mp z
      exact (O.row p st u e).2.1
  obtain ⟨js, f2, G, ef⟩ := far_at w nW kl hL hs h
  have hl : (h.set m (.lkK (mapV (keysOf' W) (wrow s f g))))[m]? = some (.lkK (mapV (keysOf' W) (wrow s f g))) := get_set hm
  have ixl : ∀ p ∈ keysOf' W, opIx (h.set m (.lkK (mapV (keysOf' W) (wrow s f g)))) (.ref m) (.int p) = some (wrow s f g p) := fun p hp => by
    have R : RdL (h.set m (.lkK (mapV (keysOf' W) (wrow s f g)))) (.ref m) (mapV (keysOf' W) (wrow s f g)) := .inr ⟨m, rfl, .inr hl⟩
    unfold opIx
    simp only [R.seq, lookM, R.dict, keyOf, getK_mapV, if_pos hp]
  refine we_eq (d__law_is_way_paper ?_)
  unfold b__law_is_way_paper
  have isd : fIsi "dict" h [.ref m] = some (.bl true) := by simp [fIsi, tyN, em, subTy]
  show wp
  show wr isd
  show wr ln
  refine br_f (by unfold websV; simp) ?_
  show wp
  refine wp_forKm em ?_
  rw [show (mapV (keysOf' W) (wrow s f g)).map (fun kv => keyV kv.1) = (keysOf' W).map .int by simp [mapV, keyV, Function.comp_def]]
  refine wfor (fun i S h1 => ∃ o4, S = [some (.dK (websV W)), some (.dT (lenT (tiesOf W) L)), some (.int s), some (.ref m), o4, none] ∧ h1 = h.set m (.lkK (mapV (keysOf' W) (wrow s f g)))) ⟨none, rfl, rfl⟩ ?_ ?_
  · rintro i x S h1 ex ⟨o4, rfl, rfl⟩
    rw [List.getElem?_map] at ex
    cases ep : (keysOf' W)[i]? with
    | none => rw [ep] at ex; cases ex
    | some p =>
      rw [ep] at ex; cases ex
      have hp := List.mem_of_getElem? ep
      unfold B1__law_is_way_paper
      show wp
      refine br_f (by simp [hp]) ?_
      show wp
      show wr (ixl p hp)
      cases hB : hasB s g p with
      | false =>
        rw [wrow_non hB]
        show wp
        exact ⟨.inl rfl, _, rfl, rfl⟩
      | true =>
        obtain ⟨x, z, hx, ew⟩ := wrow_has F.s0 hB
        rw [ew]
        show wp
        show wr (ixl p hp)
        rw [ew]
        show wp
        show wr (shaped_at (bk12 (bk_ok F kl (gk p hp hB))) hx _)
        exact ⟨.inl rfl, _, rfl, rfl⟩
  · rintro S h1 ⟨o4, rfl, rfl⟩
    have e0 : wrow s f g s = .tup [.row [.int 0, .int 1], .int 0, .non] := by unfold wrow; rw [if_pos rfl]
    have ne0 : opNe h (.tup [.row [.int 0, .int 1], .int 0, .non]) (.tup [.tup [.int 0, .int 1], .int 0, .non]) = some (.bl false) := by simp [opNe, opNe0, dictK, rdM, eqM, isD, isDs, eqD, eqDs]
    refine ⟨_, hl, ?_⟩
    rw [List.set_set, show h.set m (.dK (mapV (keysOf' W) (wrow s f g))) = h by
      obtain ⟨h1, h2⟩ := List.getElem?_eq_some_iff.mp em
      rw [← h2, List.set_getElem_self]]
    show wp
    show wr (ix_farC em hs)
    rw [e0]
    show wp
    show wr ne0
    show wr (all_at W w.nd (by omega) _)
    show wr ef
    refine wp_forK (kvs := websV W) rfl ?_
    rw [keysV_webs]
    refine wfor (fun i S h1 => ∃ o4, S = [some (.dK (websV W)), some (.dT (lenT (tiesOf W) L)), some (.int s), some (.ref m), o4, some (.dK (farV js f2))] ∧ h1 = h) ⟨_, rfl, rfl⟩ ?_ ?_
    · rintro i x S h1 ex ⟨o4, rfl, rfl⟩
      rw [List.getElem?_map] at ex
      cases ep : (keysOf' W)[i]? with
      | none => rw [ep] at ex; cases ex
      | some p =>
        rw [ep] at ex; cases ex
        have hp := List.mem_of_getElem? ep
        obtain ⟨q1, q2⟩ := F.same G p
        have nin : opNotIn h1 (.int p) (.dK (farV js f2)) = some (.bl (!decide (p ∈ js))) := by
          have R : RdL h1 (.dK (farV js f2)) (farV js f2) := .inl rfl
          unfold opNotIn farV at *
          simp only [R.seq, lookM, R.dict, keyOf, getK_mapV]
          by_cases q : p ∈ js <;> simp [q]
        have inn : opIn h1 (.int p) (.dK (farV js f2)) = some (.bl (decide (p ∈ js))) := in_mapD p
        unfold B2__law_is_way_paper
        show wp
        show wr nin
        by_cases pj : p ∈ js
        · have pk := q1.mpr pj
          have hB := hasB_iff.mpr (O.all p pk)
          obtain ⟨x, z, hx, ew⟩ := wrow_has F.s0 hB
          have ixj : opIx h1 (.dK (farV js f2)) (.int p) = some (frV (fr (f2 p))) := ix_mapD pj
          rw [decide_eq_true pj] at *
          show wp
          show wr inn
          show wr (ix_farC em hp)
          rw [ew]
          show wp
          show wr (ix_farC em hp)
          rw [ew]
          show wp
          show wr ixj
          rw [← q2 pk]
          show wr (eqG hx (frG_fr (f p)) h1).2
          rw [decide_eq_true rfl]
          show wp
          show wr inn
          by_cases ps : p = s
          · rw [decide_eq_true ps]
            show wp
            exact ⟨.inl rfl, _, rfl, rfl⟩
          · rw [decide_eq_false ps]
            show wp
            show wr (fits_at w kl hL F O h1 m em ps pk)
            exact ⟨.inl rfl, _, rfl, rfl⟩
        · have hB : hasB s g p = false := by
            cases hB : hasB s g p with
            | false => rfl
            | true => exact absurd (q1.mp (gk p hp hB)) pj
          rw [decide_eq_false pj] at *
          show wp
          show wr (ix_farC em hp)
          rw [wrow_non hB]
          show wp
          show wr inn
          show wr inn
          exact ⟨.inl rfl, _, rfl, rfl⟩
    · rintro S h1 ⟨o4, rfl, rfl⟩
      show wp
      exact ⟨rfl, rfl⟩
end
/-! ### the way to a point -/
def pvN (g : Int → Option (Int × Int)) (p : Int) : Nat → Int
  | 0 => p
  | n + 1 => ((g (pvN g p n)).getD (0, 0)).2
def wayL (g : Int → Option (Int × Int)) (p : Int) (n : Nat) : List Int := (List.range (n + 1)).map fun i => pvN g p i
theorem wayL_snoc (g : Int → Option (Int × Int)) (p : Int) (n : Nat) : wayL g p (n + 1) = wayL g p n ++ [pvN g p (n + 1)] := by
  unfold wayL
  rw [List.range_succ, List.map_append]; rfl
theorem wayL_last (g : Int → Option (Int × Int)) (p : Int) (n : Nat) : ∃ A : List Int, wayL g p n = A ++ [pvN g p n] := by
  refine ⟨(List.range n).map fun i => pvN g p i, ?_⟩
  unfold wayL
  rw [List.range_succ, List.map_append]; rfl
theorem wayL_len (g : Int → Option (Int × Int)) (p : Int) (n : Nat) : (wayL g p n).length = n + 1 := by
  unfold wayL
  rw [List.length_map, List.length_range]
section
variable {W : WL} (w : Web W) (nW : Names (keysOf' W)) (kl : W.length ≤ 12) {L : Int × Int → Int} {s : Int} {ks : List Int} {f : Int → Int} {g : Int → Option (Int × Int)} (F : FarOk W (symL L) BL s ks f) (O : WayOk W (symL L) s ks f g)
include F O in
theorem has_ks {p : Int} (h : hasR s g p) : p ∈ ks := by
  rcases h with z | z
  · rw [z]; exact F.si
  · obtain ⟨⟨st, y⟩, ey⟩ := Option.isSome_iff_exists.mp z
    exact (O.row p st y ey).2.1
include O in
theorem chain {p : Int} (h : hasR s g p) : ∀ n : Nat, n ≤ (stpR s g p).toNat → hasR s g (pvN g p n) ∧ stpR s g (pvN g p n) = stpR s g p - (n : Int)
  | 0, _ => ⟨h, by simp [pvN]⟩
  | n + 1, hn => by
    obtain ⟨h1, h2⟩ := chain h n (by omega)
    have ne : pvN g p n ≠ s := fun z => by
      have : stpR s g (pvN g p n) = 0 := by unfold stpR; rw [if_pos z]
      omega
    rcases h1 with z | z
    · exact absurd z ne
    · obtain ⟨⟨st, u⟩, e⟩ := Option.isSome_iff_exists.mp z
      obtain ⟨_, _, _, hu, _, _, e2⟩ := O.row _ st u e
      have e3 : stpR s g (pvN g p n) = st := by unfold stpR; rw [if_neg ne, e]; rfl
      have e4 : pvN g p (n + 1) = u := by show ((g (pvN g p n)).getD (0, 0)).2 = u; rw [e]; rfl
      rw [e4]
      exact ⟨hu, by omega⟩
include O in
theorem chain_end {p : Int} (h : hasR s g p) {n : Nat} (hn : n ≤ (stpR s g p).toNat) : pvN g p n = s ↔ n = (stpR s g p).toNat := by
  obtain ⟨h1, h2⟩ := chain O h n hn
  have h0 := O.nn p h
  constructor
  · intro z
    have : stpR s g (pvN g p n) = 0 := by unfold stpR; rw [if_pos z]
    omega
  · intro z
    refine Classical.byContradiction fun ne => ?_
    rcases h1 with y | y
    · exact ne y
    · obtain ⟨⟨st, u⟩, e⟩ := Option.isSome_iff_exists.mp y
      obtain ⟨_, _, _, hu, _, _, e2⟩ := O.row _ st u e
      have e3 : stpR s g (pvN g p n) = st := by unfold stpR; rw [if_neg ne, e]; rfl
      have := O.nn u hu
      omega
include F O kl in
theorem chain_len {p : Int} (h : hasR s g p) : (stpR s g p).toNat < 12 := by
  have h0 := O.nn p h
  have nd : (wayL g p (stpR s g p).toNat).Nodup := by
    unfold wayL
    refine List.pairwise_map.mpr (List.Pairwise.imp_of_mem (fun {a b} ha hb hab z => ?_) (List.nodup_range (n := (stpR s g p).toNat + 1)))
    have ha := List.mem_range.mp ha
    have hb := List.mem_range.mp hb
    have h1 := (chain O h a (by omega)).2
    have h2 := (chain O h b (by omega)).2
    rw [z] at h1
    omega
  have := sub_len' nd (k := keysOf' W) fun x hx => by
    obtain ⟨i, hi, rfl⟩ := List.mem_map.mp hx
    have hi := List.mem_range.mp hi
    exact F.sub _ (has_ks F O (chain O h i (by omega)).1)
  rw [wayL_len, keys_len] at this
  omega
/-- what stands third in a row -/
def prevV (s : Int) (g : Int → Option (Int × Int)) (p : Int) : MV := if p = s then .non else .int ((g p).getD (0, 0)).2
theorem w_at2 {p : Int} (h : MH) (a : hasR s g p) : opIx h (wrow s f g p) (.int 2) = some (prevV s g p) := by
  unfold wrow prevV
  by_cases q : p = s
  · rw [if_pos q, if_pos q]; rfl
  · rw [if_neg q, if_neg q]
    rcases a with z | z
    · exact absurd z q
    · obtain ⟨y, ey⟩ := Option.isSome_iff_exists.mp z
      rw [ey]; rfl
theorem last_ix {h t : MH} {g : Int → Option (Int × Int)} {p : Int} {n : Nat} : opIx (h ++ [.lst ((wayL g p n).map .int)]) (.ref h.length) (.int (-1)) = some (.int (pvN g p n)) := by
  obtain ⟨A, e⟩ := wayL_last g p n
  rw [ix_ref get_last, e, List.map_append]
  exact at_m1 _ _
include w F O kl in
theorem wayto_at (h : MH) (m : Nat) (em : h[m]? = some (.dK (mapV (keysOf' W) (wrow s f g)))) {p : Int} (a : hasR s g p) : (toldX g_way_to) [.ref m, .int p] h = some (.val (.row ((wayL g p (stpR s g p).toNat).reverse.map .int)), h) := by
  have pk := F.sub p (has_ks F O a)
  have hB := hasB_iff.mpr a
  have cl := chain_len kl F O a
  have em2 : ∀ c, (h ++ [c])[m]? = some (.dK (mapV (keysOf' W) (wrow s f g))) := fun c => get_app' em
  have tr : ∀ (H : MH) (xs : List Int) (m : Nat), H[m]? = some (.lst (xs.map .int)) → opTupRevW H (.ref m) = some (.row (xs.reverse.map .int)) := fun H xs m e => by simp only [opTupRevW, listOf, e, Option.map_some, List.map_reverse]
  have raw : Wr (g_way_to [.ref m, .int p] h) fun v h' => v = .val (.row ((wayL g p (stpR s g p).toNat).reverse.map .int)) ∧ h' = h ++ [.lst ((wayL g p (stpR s g p).toNat).map .int)] := by
    refine d_way_to ?_
    unfold b_way_to
    show wp
    show wr (ix_farC em pk)
    rcases wrow_cases s f g p with ⟨hB2, _, _, ew⟩ | ⟨_, xx, zz, ew⟩
    · rw [hB] at hB2; cases hB2
    rw [ew]
    show wp
    refine wwhileN (fun k S h1 => ∃ n, n ≤ (stpR s g p).toNat ∧ k = (stpR s g p).toNat - n ∧ S = [some (.ref m), some (.int p), some (.ref h.length)] ∧ h1 = h ++ [.lst ((wayL g p n).map .int)]) _ ⟨0, Nat.zero_le _, rfl, rfl, rfl⟩ ?_
    rintro k S h1 ⟨n, hn, rfl, rfl, rfl⟩
    obtain ⟨a1, a2⟩ := chain O a n hn
    have nk := F.sub _ (has_ks F O a1)
    have fin := chain_end O a hn
    unfold W1_way_to
    show wp
    show wr (last_ix (h := h) (t := []) (g := g) (p := p) (n := n))
    show wr (ix_farC (em2 _) nk)
    show wr (w_at2 (f := f) _ a1)
    by_cases z : pvN g p n = s
    · unfold prevV
      rw [if_pos z]
      show wp
      have := fin.mp z
      subst this
      show wr (tr _ _ _ get_last)
      exact ⟨rfl, rfl⟩
    · unfold prevV
      rw [if_neg z]
      show wp
      unfold B1_way_to
      refine wp_expr ?_
      refine we_append ?_
      show wp
      refine ⟨h.length, _, rfl, get_last, ?_⟩
      show wp
      show wr (last_ix (h := h) (t := []) (g := g) (p := p) (n := n))
      show wr (ix_farC (em2 _) nk)
      show wr (w_at2 (f := f) _ a1)
      unfold prevV
      rw [if_neg z]
      refine ⟨_, get_last, by rw [List.length_map, wayL_len]; omega, ?_⟩
      rw [set_last]
      show wp
      refine ⟨.inl rfl, _, ?_, n + 1, ?_, rfl, rfl, ?_⟩
      · have : n ≠ (stpR s g p).toNat := fun y => z (fin.mpr y)
        omega
      · have : n ≠ (stpR s g p).toNat := fun y => z (fin.mpr y)
        omega
      · rw [wayL_snoc, List.map_append]; rfl
  obtain ⟨v, h', er, rfl, rfl⟩ := raw
  exact toldX_val er (by simp only [plainV]; exact plain_ints _)
theorem waytono_at (h : MH) (m : Nat) (em : h[m]? = some (.dK (mapV (keysOf' W) (wrow s f g)))) {p : Int} (pk : p ∈ keysOf' W) (a : hasB s g p = false) : (toldX g_way_to) [.ref m, .int p] h = some (.ex c_NoWay, h) := by
  have raw : Wr (g_way_to [.ref m, .int p] h) fun v h' => v = .ex c_NoWay ∧ h' = h := by
    refine d_way_to ?_
    unfold b_way_to
    show wp
    show wr (ix_farC em pk)
    rcases wrow_cases s f g p with ⟨_, _, _, ew⟩ | ⟨hB2, _⟩
    · rw [ew]
      show wp
      exact ⟨rfl, rfl⟩
    · rw [a] at hB2; cases hB2
  obtain ⟨v, h', er, rfl, rfl⟩ := raw
  exact toldX_ex er
theorem refused_at (h : MH) (m : Nat) (em : h[m]? = some (.dK (mapV (keysOf' W) (wrow s f g)))) {p : Int} (pk : p ∈ keysOf' W) (a : hasB s g p = false) : g__law_refused [.ref m, .int p] h = some (.bl true, h) := by
  refine we_eq (d__law_refused ?_)
  unfold b__law_refused
  refine wp_seq ?_
  refine wp_tryAsR ?_
  refine wx_expr ?_
  show wp
  refine wr_of (waytono_at h m em pk a) ?_
  show wp
  exact ⟨by decide, by decide, by simp, kS_rt (kR_rt ⟨rfl, rfl⟩)⟩
include F O in
theorem link {p : Int} (a : hasR s g p) {j : Nat} (hj : j < (stpR s g p).toNat) : pvN g p (j + 1) ∈ ks ∧ pvN g p (j + 1) ∈ rowsAt W (pvN g p j) ∧ f (pvN g p (j + 1)) + symL L (pvN g p (j + 1)) (pvN g p j) = f (pvN g p j) := by
  obtain ⟨a1, a2⟩ := chain O a j (by omega)
  have ne : pvN g p j ≠ s := fun z => by
    have := (chain_end O a (n := j) (by omega)).mp z
    omega
  obtain ⟨st, u, e, c, d, e1, e2, _⟩ := O.steps F (has_ks F O a1) ne
  have eu : pvN g p (j + 1) = u := by show ((g (pvN g p j)).getD (0, 0)).2 = u; rw [e]; rfl
  rw [eu]
  exact ⟨c, d, e1⟩
theorem wayR_ix (h : MH) (p : Int) (n i : Nat) (hi : i ≤ n) : opIx h (.row ((wayL g p n).reverse.map .int)) (.int (i : Nat)) = some (.int (pvN g p (n - i))) := by
  have e : (wayL g p n).reverse[i]? = some (pvN g p (n - i)) := by
    rw [List.getElem?_reverse (by rw [wayL_len]; omega), wayL_len]
    unfold wayL
    rw [List.getElem?_map, List.getElem?_range (by omega)]
    rw [show n + 1 - 1 - i = n - i by omega]; rfl
  show atM _ _ = _
  exact at_nat (by rw [List.getElem?_map, e]; rfl)
include w F O kl in
theorem leads_at (hL : ∀ p, 0 ≤ L p ∧ L p ≤ BL) (h : MH) (m : Nat) (em : h[m]? = some (.dK (mapV (keysOf' W) (wrow s f g)))) {p : Int} (a : hasR s g p) : (toldV g__law_leads) [.dK (websV W), .dT (lenT (tiesOf W) L), .int s, .int p, .ref m] h = some (.bl true, h) := by
  have pk := F.sub p (has_ks F O a)
  have cl := chain_len kl F O a
  have h0 := O.nn p a
  have et := wayto_at w kl F O h m em a
  have ce := (chain_end O a (n := (stpR s g p).toNat) (Nat.le_refl _)).mpr rfl
  have wl : ((wayL g p (stpR s g p).toNat).reverse.map MV.int).length = (stpR s g p).toNat + 1 := by rw [List.length_map, List.length_reverse, wayL_len]
  have i0 := wayR_ix (g := g) h p (stpR s g p).toNat 0 (Nat.zero_le _)
  rw [Nat.sub_zero, ce] at i0
  have im : opIx h (.row ((wayL g p (stpR s g p).toNat).reverse.map .int)) (.int (-1)) = some (.int p) := by
    have e : ∃ A : List Int, (wayL g p (stpR s g p).toNat).reverse = A ++ [p] := by
      refine ⟨((List.range (stpR s g p).toNat).map fun i => pvN g p (i + 1)).reverse, ?_⟩
      unfold wayL
      rw [List.range_succ_eq_map, List.map_cons, List.reverse_cons, List.map_map]; rfl
    obtain ⟨A, e⟩ := e
    rw [e, List.map_append]
    exact at_m1 _ _
  generalize hn : (stpR s g p).toNat = n at et wl i0 im cl ce
  obtain ⟨x0, z0, hx0, ew0⟩ := wrow_has F.s0 (hasB_iff.mpr a)
  have raw : We (g__law_leads [.dK (websV W), .dT (lenT (tiesOf W) L), .int s, .int p, .ref m] h) fun v h' => v = .bl true ∧ h' = h := by
    refine d__law_leads ?_
    unfold b__law_leads
    show wp
    refine we_okX ?_
    refine wr_of et ?_
    refine ⟨_, rfl, ?_⟩
    show wp
    rw [wl]
    refine br_f (by simp; omega) ?_
    show wp
    show wr i0
    refine br_f (by simp) ?_
    show wp
    show wr im
    refine br_f (by simp) ?_
    show wp
    rw [wl]
    show wp
    refine wfor (fun i S h1 => ∃ x o7 o8 o9, i ≤ n ∧ FrG (f (pvN g p (n - i))) x ∧ S = [some (.dK (websV W)), some (.dT (lenT (tiesOf W) L)), some (.int s), some (.int p), some (.ref m), some (.row ((wayL g p n).reverse.map .int)), some x, o7, o8, o9] ∧ h1 = h) ⟨.tup [.int 0, .int 1], none, none, none, Nat.zero_le _, by rw [Nat.sub_zero, ce, F.s0]; unfold FrG; rw [fr_zero]; exact .inl rfl, rfl, rfl⟩ ?_ ?_
    · rintro i y S h1 ex ⟨x, o7, o8, o9, hi, hx, rfl, rfl⟩
      obtain ⟨rfl, hi2⟩ := rng_at ex
      have hi3 : i < n := by omega
      obtain ⟨l1, l2, l3⟩ := link F O a (j := n - (i + 1)) (by omega)
      have nn : n - (i + 1) + 1 = n - i := by omega
      rw [nn] at l1 l2 l3
      have iu := wayR_ix (g := g) h1 p n i (by omega)
      have iv := wayR_ix (g := g) h1 p n (i + 1) (by omega)
      generalize pvN g p (n - i) = u at *
      generalize pvN g p (n - (i + 1)) = v at *
      obtain ⟨r, er⟩ := mem_rowOf (F.sub u l1)
      have ra := rowsAt_of er
      have huv := rows_sym w l2
      unfold B1__law_leads
      rw [show (1 + (i : Nat) : Int) = ((i + 1 : Nat) : Int) by omega]
      show wp
      rw [show (((i + 1 : Nat) : Int) - 1) = ((i : Nat) : Int) by omega]
      show wr iu
      show wr iv
      show wr (ix_websV er)
      refine br_f (by simp; rw [← ra]; exact huv) ?_
      show wp
      show wr (ix_len w huv _)
      show wr (sumG (bk12 (bk_ok F kl l1)) (bk_len hL u v) hx (frG_fr _) _)
      rw [l3]
      exact ⟨.inl rfl, _, _, _, _, by omega, frG_fr _, rfl, rfl⟩
    · rintro S h1 ⟨x, o7, o8, o9, hi, hx, rfl, rfl⟩
      rw [rng_len, show n - (((n + 1 : Nat) : Int) - 1).toNat = 0 by omega] at hx
      show wp
      show wr (ix_farC em pk)
      rw [ew0]
      show wp
      show wr (eqG hx hx0 h1).1
      rw [show decide (f (pvN g p 0) = f p) = true from decide_eq_true rfl]
      show wp
      show wr (ix_farC em pk)
      rw [ew0]
      show wp
      refine ⟨?_, rfl⟩
      rw [wl, decide_eq_true (by omega)]
  obtain ⟨v, h', er, rfl, rfl⟩ := raw
  exact toldV_at (t := []) (by rw [List.append_nil]; exact er) rfl rfl same_plain
end
/-! ### the law -/
theorem eqKs_self {ks : List Int} {f : Int → MV} (he : ∀ p, eqD (f p) (f p) = true) : eqKs (mapV ks f) (mapV ks f) = true := by
  unfold eqKs
  rw [beq_self_eq_true, Bool.true_and, List.all_eq_true]
  intro kv hm
  obtain ⟨p, hp, rfl⟩ := List.mem_map.mp hm
  simp only [getK_mapV, if_pos hp, he]
theorem data_mapV {ks : List Int} {f : Int → MV} (hd : ∀ p, isD 50 (f p) = true) : dataKs (mapV ks f) = true := by
  unfold dataKs
  rw [List.all_eq_true]
  intro kv hm
  obtain ⟨p, hp, rfl⟩ := List.mem_map.mp hm
  exact hd p
theorem w_data (s : Int) (f : Int → Int) (g : Int → Option (Int × Int)) (p : Int) : isD 50 (wrow s f g p) = true ∧ eqD (wrow s f g p) (wrow s f g p) = true := by
  unfold wrow
  split
  · exact ⟨rfl, by simp [eqD, eqDs]⟩
  · split
    · exact ⟨rfl, by simp [eqD]⟩
    · exact ⟨rfl, by simp [eqD, eqDs, frV]⟩
theorem single_web (n : Int) : Web [(n, ([] : List Int))] := by
  have row : ∀ u r, rowOf [(n, ([] : List Int))] u = some r → r = [] := fun u r e => by
    unfold rowOf at e
    split at e
    · cases e; rfl
    · cases e
  refine ⟨by simp [keysOf'], fun u r e => ?_, fun u v r e hv => ?_⟩
  · rw [row u r e]; simp
  · rw [row u r e] at hv; cases hv
theorem eqTs_len : ∀ (T : List (Int × Int)) (L : Int × Int → Int), eqTs (lenT T L) (lenT T L) = true
  | [], _ => rfl
  | p :: T, L => by
    have := eqTs_len T L
    unfold lenT at this ⊢
    simp only [List.map_cons, eqTs]
    rw [this]
    simp [frV, isD, isDs, eqD, eqDs]
theorem nedt_at (h : MH) (T : List (Int × Int)) (L : Int × Int → Int) : opNeDT h (.dT (lenT T L)) (.dT (lenT T L)) = some (.bl false) := by
  simp only [opNeDT, dictT, eqTs_len, if_true]
theorem dictt_at (h : MH) {W : WL} (w : Web W) (nW : Names (keysOf' W)) (L : Int × Int → Int) : fDictT h [.dT (lenT (tiesOf W) L)] = some (.dT (lenT (tiesOf W) L)) := by
  have : ((lenT (tiesOf W) L).all fun kv => smallP kv.1) = true := by
    rw [List.all_eq_true]
    intro kv hm
    obtain ⟨p, hp, rfl⟩ := List.mem_map.mp hm
    obtain ⟨⟨r, er, hv⟩, _⟩ := (tiesOf_mem (u := p.1) (v := p.2)).mp hp
    have hv' : p.2 ∈ rowsAt W p.1 := by unfold rowsAt; rw [er]; exact hv
    obtain ⟨k2, k1⟩ := rows_key w hv'
    have a := nW.2 _ k1
    have b := nW.2 _ k2
    simp only [smallP, lkey, decide_eq_true_eq]
    omega
  simp only [fDictT, dictT, this, if_true]
theorem good_at {W : WL} (w : Web W) (nW : Names (keysOf' W)) (kl : W.length ≤ 12) {L : Int × Int → Int} (hL : ∀ p, 0 ≤ L p ∧ L p ≤ BL) {s : Int} (hs : s ∈ keysOf' W) (h : MH) :
    We (g__law_good [.dK (websV W), .dT (lenT (tiesOf W) L), .int s] h) fun v h' => v = .bl true ∧ ∃ c, h' = h ++ [c] := by
  obtain ⟨ks, f, g, F, O, ew⟩ := ways_at w kl hL hs
  have lk := keys_len W
  have em : ∀ D : List (MK × MV), (h ++ [.dK D])[h.length]? = some (.dK D) := fun D => get_last
  have fdd : fDictD (h ++ [.dK (mapV (keysOf' W) (wrow s f g))]) [.ref h.length] = some (.dK (mapV (keysOf' W) (wrow s f g))) := by simp [fDictD, dictK]
  have dm : dataKs (mapV (keysOf' W) (wrow s f g)) = true := data_mapV (fun p => (w_data s f g p).1)
  have em2 : eqKs (mapV (keysOf' W) (wrow s f g)) (mapV (keysOf' W) (wrow s f g)) = true := eqKs_self (fun p => (w_data s f g p).2)
  have neq : opNe (h ++ [.dK (mapV (keysOf' W) (wrow s f g))]) (.ref h.length) (.dK (mapV (keysOf' W) (wrow s f g))) = some (.bl false) := by
    have e1 : dictK (h ++ [.dK (mapV (keysOf' W) (wrow s f g))]) (.ref h.length) = some (mapV (keysOf' W) (wrow s f g)) := by simp [dictK]
    simp only [opNe, e1, show ∀ h, dictK h (.dK (mapV (keysOf' W) (wrow s f g))) = some (mapV (keysOf' W) (wrow s f g)) from fun _ => rfl, dm, Bool.and_self, if_true, em2]; rfl
  have eqq : ∀ h, opEq h (.dK (mapV (keysOf' W) (wrow s f g))) (.dK (mapV (keysOf' W) (wrow s f g))) = some (.bl true) := fun h => by
    simp only [opEq, dictK, dm, Bool.and_self, if_true, em2]
  have lm : ∀ f : Int → MV, (mapV (keysOf' W) f).length = W.length := fun f => by unfold mapV; rw [List.length_map]; exact lk
  refine d__law_good ?_
  unfold b__law_good
  show wp
  show wr (ew h)
  show wr (waypaper_at w nW kl hL hs F O _ h.length (em _))
  show wr fdd
  refine wp_forK (kvs := websV W) rfl ?_
  rw [keysV_webs]
  refine wfor (fun i S h1 => ∃ o5, S = [some (.dK (websV W)), some (.dT (lenT (tiesOf W) L)), some (.int s), some (.ref h.length), some (.dK (mapV (keysOf' W) (wrow s f g))), o5] ∧ h1 = h ++ [.dK (mapV (keysOf' W) (wrow s f g))]) ⟨none, rfl, rfl⟩ ?_ ?_
  · rintro i x S h1 ex ⟨o5, rfl, rfl⟩
    rw [List.getElem?_map] at ex
    cases ep : (keysOf' W)[i]? with
    | none => rw [ep] at ex; cases ex
    | some p =>
      rw [ep] at ex; cases ex
      have hp := List.mem_of_getElem? ep
      unfold B1__law_good
      show wp
      show wr (ix_farC (em _) hp)
      cases hB : hasB s g p with
      | false =>
        rw [wrow_non hB]
        show wp
        show wr (refused_at _ h.length (em _) hp hB)
        exact ⟨.inl rfl, _, rfl, rfl⟩
      | true =>
        obtain ⟨x, z, hx, ewp⟩ := wrow_has F.s0 hB
        rw [ewp]
        show wp
        show wr (leads_at w kl F O hL _ h.length (em _) (hasB_iff.mp hB))
        exact ⟨.inl rfl, _, rfl, rfl⟩
  · rintro S h1 ⟨o5, rfl, rfl⟩
    show wp
    show wr neq
    have p1 := put_mapU (h := h ++ [.dK (mapV (keysOf' W) (wrow s f g))]) (m := h.length) (ks := keysOf' W) (f := wrow s f g) (v := s) (x := .non) get_last (by omega) hs
    rw [set_last] at p1
    have p2 := put_mapV (h := h ++ [.dK (mapV (keysOf' W) (updI (wrow s f g) s .non))]) (m := h.length) (ks := keysOf' W) (f := updI (wrow s f g) s .non) (p := -1) (v := .tup [.int 0, .int 1]) get_last (fun z => by have := (nW.2 _ z).1; omega) (by unfold szLine; omega)
    rw [set_last] at p2
    show wr p1
    show wr p2
    show wr (ew _)
    show wr (eqq _)
    exact ⟨rfl, _, rfl⟩
theorem rest_at (ns : List Int) (ds : List Int) (T : MH) (hD : Drawn ds) {W : WL} (w : Web W) (nW : Names (keysOf' W)) (l1 : 1 ≤ W.length) (kl : W.length ≤ 12) (o2 o4 o5 o6 o7 o8 : Option MV) :
    Wp ((sSeq (sAsg (xCall (toldF Ew.g__law_lengths) (xCons (xVar 1) (xCons (xVar 3) xNil))) (gNm 4))
    (sSeq (sPar 5 6 (xCall (toldF Ew.g__law_twin) (xCons (xVar 3) xNil)) (xArgs fDictT (xCons (xVar 4) xNil)))
    (sSeq (sAsg (xUn fKeysS (xVar 3)) (gNm 7))
    (sSeq (sFor (iRange1 (xC (.int 2))) (gNm 8) B2_law)
    (sIf (xOrT (xB (xOp opNe (xVar 3) (xVar 5))) (xB (xOp opNeDT (xVar 4) (xVar 6)))) (sRet (xC (.bl false))) sNext))))) [some (.scr ns), some (.ref 0), o2, some (.dK (websV W)), o4, o5, o6, o7, o8] (.lst (ds.map .int) :: T))
    fun f s2 h2 => ((f = .nx ∨ f = .ct) ∧ ∃ (ds : List Int) (T : MH) (o2 o3 o4 o5 o6 o7 o8 : Option MV), Drawn ds ∧ s2 = [some (.scr ns), some (.ref 0), o2, o3, o4, o5, o6, o7, o8] ∧ h2 = .lst (ds.map .int) :: T) := by
  have lr : ∀ u r, rowOf W u = some r → r.length ≤ 1000 := fun u r e => w.len nW.2 e
  obtain ⟨L, hL, eL⟩ := lengths_at (.lst (ds.map .int) :: T) 0 ds rfl hD W w nW (by omega) lr
  have D1 := hD.tail
  rw [show (MC.lst (ds.map .int) :: T : MH).set 0 (.lst (ds.tail.map .int)) = .lst (ds.tail.map .int) :: T from rfl] at eL
  generalize ds.tail = ds1 at D1 eL
  have lk := keys_len W
  have ls := (sortI_perm (keysOf' W)).length_eq
  show wp
  show wr eL
  show wr (twin_web W w.nd (by omega) _)
  show wr (dictt_at _ w nW L)
  refine wforR (fun i s2 h2 => ∃ (ds : List Int) (T : MH) (o8 : Option MV), Drawn ds ∧ s2 = [some (.scr ns), some (.ref 0), o2, some (.dK (websV W)), some (.dT (lenT (tiesOf W) L)), some (.dK (websV W)), some (.dT (lenT (tiesOf W) L)), some (.lst ((sortI (keysOf' W)).map .int)), o8] ∧ h2 = .lst (ds.map .int) :: T) ⟨ds1, T, o8, D1, rfl, rfl⟩ ?_ ?_
  · rintro i x s2 h2 ex ⟨ds2, T, o8, D2, rfl, rfl⟩
    have en := next_at ds2 0 (.lst (ds2.map .int) :: T) rfl
    obtain ⟨m0, m1⟩ := D2.head
    have D3 := D2.tail
    rw [show (MC.lst (ds2.map .int) :: T : MH).set 0 (.lst (ds2.tail.map .int)) = .lst (ds2.tail.map .int) :: T from rfl] at en
    generalize ds2.headD 0 = m at m0 m1 en
    generalize ds2.tail = ds3 at D3 en
    have lp : 0 < ((((sortI (keysOf' W)).map MV.int).length : Nat) : Int) := by rw [List.length_map]; omega
    unfold B2_law
    show wp
    show wr en
    refine wv_pick m0 (fun z => by rw [z] at ls; simp at ls; omega) fun s hs => ?_
    have hs' := (sortI_perm _).mem_iff.mp hs
    show wp
    refine we_mono (good_at w nW kl hL hs' (.lst (ds3.map .int) :: T)) fun v h' hv => ?_
    obtain ⟨rfl, c, rfl⟩ := hv
    show wp
    exact .inl ⟨.inl rfl, ds3, T ++ [c], _, D3, rfl, rfl⟩
  · rintro s2 h2 ⟨ds2, T, o8, D2, rfl, rfl⟩
    show wp
    show wr (ne_webs _ w.nd)
    show wp
    show wr (nedt_at _ _ _)
    show wp
    exact ⟨.inl rfl, ds2, T, _, _, _, _, _, _, _, D2, rfl, rfl⟩
theorem pick2 {R : MV → Prop} {a b : MV} {i : Int} (h0 : 0 ≤ i) (h1 : i < 2) (qa : R a) (qb : R b) : Wv (atM [a, b] i) R := by
  have : i = 0 ∨ i = 1 := by omega
  rcases this with rfl | rfl
  · exact ⟨_, rfl, qa⟩
  · exact ⟨_, rfl, qb⟩
theorem law_true (ns : List Int) (hl : ns.length ≤ 63) : ∃ h', g_law [.scr ns] [] = some (.bl true, h') := by
  suffices h : We (g_law [.scr ns] []) fun v _ => v = .bl true by
    obtain ⟨v, h', e, rfl⟩ := h; exact ⟨h', e⟩
  refine d_law ?_
  unfold b_law
  show wp
  obtain ⟨ds, ed, hD, ld⟩ := draws_at ns hl []
  show wr ed
  rw [show ([] : MH) ++ [MC.lst (ds.map .int)] = [.lst (ds.map .int)] from rfl, show ([] : MH).length = 0 from rfl]
  have el : fLen [.lst (ds.map .int)] [.ref 0] = some (.int ds.length) := by simp [fLen, seqOf, listOf]
  show wr el
  first
    | refine kN_int ⟨by split <;> omega, by split <;> omega⟩ ?_
      show wp
    | skip
  refine wfor (fun i s1 h1 => ∃ (ds : List Int) (T : MH) (o2 o3 o4 o5 o6 o7 o8 : Option MV), Drawn ds ∧ s1 = [some (.scr ns), some (.ref 0), o2, o3, o4, o5, o6, o7, o8] ∧ h1 = .lst (ds.map .int) :: T) ⟨ds, [], none, none, none, none, none, none, none, hD, rfl, rfl⟩ ?_ ?_
  · rintro i x s1 h1 ex ⟨ds, T, o2, o3, o4, o5, o6, o7, o8, D, rfl, rfl⟩
    have en := next_at ds 0 (.lst (ds.map .int) :: T) rfl
    obtain ⟨n0, n1⟩ := D.head
    have D1 := D.tail
    rw [show (MC.lst (ds.map .int) :: T : MH).set 0 (.lst (ds.tail.map .int)) = .lst (ds.tail.map .int) :: T from rfl] at en
    generalize ds.headD 0 = n at n0 n1 en
    generalize ds.tail = ds1 at D1 en
    have key : ∀ mo : Int, 0 ≤ mo → mo ≤ 12 → We ((toldV Ew.g__law_flat) [.ref 0, .int mo] (.lst (ds1.map .int) :: T)) fun v h2 => ∃ (V : WL) (ds2 : List Int), v = .dK (websV V) ∧ Web V ∧ Names (keysOf' V) ∧ V.length ≤ 12 ∧ Drawn ds2 ∧ h2 = .lst (ds2.map .int) :: T := fun mo h0 h1 => by
      obtain ⟨V, ds2, w, nV, lV, D2, eV⟩ := flat_at (.lst (ds1.map .int) :: T) 0 ds1 rfl D1 mo h0 (by omega)
      exact ⟨_, _, eV, V, ds2, rfl, w, nV, by omega, D2, rfl⟩
    have all : ∀ (V : WL) (ds2 : List Int), Web V → Names (keysOf' V) → V.length ≤ 12 → Drawn ds2 → Wp (sSeq (sIf (xB (xOp opEq (xVar 3) (xC (.dK [])))) (sAsg (xDisp (((xOp opMod (xCall g__law_next (xCons (xVar 1) xNil)) (xC (.int 1000))), (xTupR xNil)) :: [])) (gNm 3)) sNext)
    (sSeq (sAsg (xCall (toldF Ew.g__law_lengths) (xCons (xVar 1) (xCons (xVar 3) xNil))) (gNm 4))
    (sSeq (sPar 5 6 (xCall (toldF Ew.g__law_twin) (xCons (xVar 3) xNil)) (xArgs fDictT (xCons (xVar 4) xNil)))
    (sSeq (sAsg (xUn fKeysS (xVar 3)) (gNm 7))
    (sSeq (sFor (iRange1 (xC (.int 2))) (gNm 8) B2_law)
    (sIf (xOrT (xB (xOp opNe (xVar 3) (xVar 5))) (xB (xOp opNeDT (xVar 4) (xVar 6)))) (sRet (xC (.bl false))) sNext))))) [some (.scr ns), some (.ref 0), some x, some (.dK (websV V)), o4, o5, o6, o7, o8] (.lst (ds2.map .int) :: T)) fun f s2 h2 => ((f = .nx ∨ f = .ct) ∧ ∃ (ds : List Int) (T : MH) (o2 o3 o4 o5 o6 o7 o8 : Option MV), Drawn ds ∧ s2 = [some (.scr ns), some (.ref 0), o2, o3, o4, o5, o6, o7, o8] ∧ h2 = .lst (ds.map .int) :: T) := fun V ds2 w nV lV D2 => by
      have e : eqKs (websV V) [] = decide (V = []) := by cases V <;> simp [eqKs, websV]
      have ne : opEq (.lst (ds2.map .int) :: T) (.dK (websV V)) (.dK []) = some (.bl (decide (V = []))) := by simp only [opEq, dictK, isDs_webs, show dataKs [] = true from rfl, Bool.and_self, if_true, e]
      show wp
      show wr ne
      by_cases z : V = []
      · rw [decide_eq_true z]
        have en := next_at ds2 0 (.lst (ds2.map .int) :: T) rfl
        obtain ⟨m0, m1⟩ := D2.head
        have D3 := D2.tail
        rw [show (MC.lst (ds2.map .int) :: T : MH).set 0 (.lst (ds2.tail.map .int)) = .lst (ds2.tail.map .int) :: T from rfl] at en
        generalize ds2.headD 0 = m at m0 m1 en
        generalize ds2.tail = ds3 at D3 en
        have e1 : xOp opMod (xCall g__law_next (xCons (xVar 1) xNil)) (xC (.int 1000)) [some (.scr ns), some (.ref 0), some x, some (.dK (websV V)), o4, o5, o6, o7, o8] (.lst (ds2.map .int) :: T) = some (.int (m % 1000), .lst (ds3.map .int) :: T) := op_at ((call_1 rfl).trans en) rfl (mod_ok (by decide))
        have ed : xDisp [((xOp opMod (xCall g__law_next (xCons (xVar 1) xNil)) (xC (.int 1000))), (xTupR xNil))] [some (.scr ns), some (.ref 0), some x, some (.dK (websV V)), o4, o5, o6, o7, o8] (.lst (ds2.map .int) :: T) = some (.dK (websV [(m % 1000, [])]), .lst (ds3.map .int) :: T) := by
          simp only [xDisp, xPairs, e1, xTupR, xNil, keyOf]; rfl
        refine kB_t ?_
        refine wp_asg ?_
        refine we_of ed ?_
        refine wg_nm' rfl ?_
        exact kS_nx (rest_at ns ds3 T D3 (single_web _) ⟨by simp [keysOf'], fun u hu => by
          have : u = m % 1000 := by simpa [keysOf'] using hu
          omega⟩ (by simp) (by simp) _ _ _ _ _ _)
      · rw [decide_eq_false z]
        exact kB_f (wp_next (kS_nx (rest_at ns ds2 T D2 w nV (List.length_pos_iff.mpr z) lV _ _ _ _ _ _)))
    unfold B1_law
    refine wg_nm' rfl ?_
    refine wp_seq (wp_asg ?_)
    show wp
    show wr en
    refine pick2 (by omega) (by omega) ?_ ?_
    all_goals
      show wp
      refine we_mono (key _ (by decide) (by decide)) fun v h2 hv => ?_
      obtain ⟨V, ds2, rfl, w, nV, lV, D2, rfl⟩ := hv
      refine wg_nm' rfl (kS_nx (all V ds2 w nV lV D2))
  · rintro s1 h1 ⟨ds, T, o2, o3, o4, o5, o6, o7, o8, D, rfl, rfl⟩
    show wp
    rfl


end
end Ew
end

section
set_option Elab.async false
set_option linter.all false
set_option maxRecDepth 100000
set_option maxHeartbeats 4000000
/-! the bridge of law_k54_whole_ways_from_a_point -/
namespace Ew
open PySem PySem.Spec PyProof.Rows L2
def topS (i : Nat) : Stmt := PySem.Challenge.pw_evenwalls_k54_whole_ways_from_a_point.main.body.getD i (.Pass ⟨0, 0, 0, 0⟩)
abbrev s_common : Stmt := topS 4
theorem sc_common : FnScope ["a", "b"] ["a", "b"] (defScope s_common) := ⟨rfl, rfl, rfl, by decide +kernel, rfl, by decide +kernel, by decide +kernel⟩
abbrev s_is_below : Stmt := topS 7
theorem sc_is_below : FnScope ["x", "y"] ["x", "y"] (defScope s_is_below) := ⟨rfl, rfl, rfl, by decide +kernel, rfl, by decide +kernel, by decide +kernel⟩
abbrev s_tie_length : Stmt := topS 10
theorem sc_tie_length : FnScope ["lengths", "u", "v"] ["lengths", "u", "v"] (defScope s_tie_length) := ⟨rfl, rfl, rfl, by decide +kernel, rfl, by decide +kernel, by decide +kernel⟩
abbrev s_way_to : Stmt := topS 14
theorem sc_way_to : FnScope ["paper", "goal", "found"] ["paper", "goal"] (defScope s_way_to) := ⟨rfl, rfl, rfl, by decide +kernel, rfl, by decide +kernel, by decide +kernel⟩
abbrev s__law_mixed : Stmt := topS 16
theorem sc__law_mixed : FnScope ["_law_cell", "_law_k", "_law_number"] ["_law_cell", "_law_k"] (defScope s__law_mixed) := ⟨rfl, rfl, rfl, by decide +kernel, rfl, by decide +kernel, by decide +kernel⟩
abbrev s__law_next : Stmt := topS 18
theorem sc__law_next : FnScope ["_law_drawn"] ["_law_drawn"] (defScope s__law_next) := ⟨rfl, rfl, rfl, by decide +kernel, rfl, by decide +kernel, by decide +kernel⟩
abbrev s__law_behind : Stmt := topS 20
theorem sc__law_behind : FnScope ["_law_rows", "_law_u", "_law_v", "_law_row"] ["_law_rows", "_law_u", "_law_v"] (defScope s__law_behind) := ⟨rfl, rfl, rfl, by decide +kernel, rfl, by decide +kernel, by decide +kernel⟩
abbrev s__law_steps : Stmt := topS 21
theorem sc__law_steps : FnScope ["_law_rows", "_law_steps_here", "_law_u", "_law_v"] ["_law_rows"] (defScope s__law_steps) := ⟨rfl, rfl, rfl, by decide +kernel, rfl, by decide +kernel, by decide +kernel⟩
abbrev s__law_put_behind : Stmt := topS 22
theorem sc__law_put_behind : FnScope ["_law_row", "_law_a", "_law_v", "_law_at"] ["_law_row", "_law_a", "_law_v"] (defScope s__law_put_behind) := ⟨rfl, rfl, rfl, by decide +kernel, rfl, by decide +kernel, by decide +kernel⟩
abbrev s__law_twin : Stmt := topS 28
theorem sc__law_twin : FnScope ["_law_web", "_law_another", "_law_p"] ["_law_web"] (defScope s__law_twin) := ⟨rfl, rfl, rfl, by decide +kernel, rfl, by decide +kernel, by decide +kernel⟩
abbrev s__law_low : Stmt := topS 31
theorem sc__law_low : FnScope ["_law_a", "_law_b", "_law_m", "_law_n"] ["_law_a", "_law_b"] (defScope s__law_low) := ⟨rfl, rfl, rfl, by decide +kernel, rfl, by decide +kernel, by decide +kernel⟩
abbrev s__law_before : Stmt := topS 32
theorem sc__law_before : FnScope ["_law_x", "_law_y"] ["_law_x", "_law_y"] (defScope s__law_before) := ⟨rfl, rfl, rfl, by decide +kernel, rfl, by decide +kernel, by decide +kernel⟩
abbrev s__law_all : Stmt := topS 36
theorem sc__law_all : FnScope ["_law_web", "_law_p"] ["_law_web"] (defScope s__law_all) := ⟨rfl, rfl, rfl, by decide +kernel, rfl, by decide +kernel, by decide +kernel⟩
abbrev s_fraction : Stmt := topS 5
theorem sc_fraction : FnScope ["a", "b", "divisor"] ["a", "b"] (defScope s_fraction) := ⟨rfl, rfl, rfl, by decide +kernel, rfl, by decide +kernel, by decide +kernel⟩
abbrev s_nearest : Stmt := topS 11
theorem sc_nearest : FnScope ["paper", "left", "best", "at", "row"] ["paper", "left"] (defScope s_nearest) := ⟨rfl, rfl, rfl, by decide +kernel, rfl, by decide +kernel, by decide +kernel⟩
abbrev s__law_draws : Stmt := topS 17
theorem sc__law_draws : FnScope ["_law_script", "_law_drawn", "_law_k", "_law_cell", "_law_j"] ["_law_script"] (defScope s__law_draws) := ⟨rfl, rfl, rfl, by decide +kernel, rfl, by decide +kernel, by decide +kernel⟩
abbrev s__law_names : Stmt := topS 19
theorem sc__law_names : FnScope ["_law_drawn", "_law_many", "_law_number", "_law_step", "_law_k"] ["_law_drawn", "_law_many"] (defScope s__law_names) := ⟨rfl, rfl, rfl, by decide +kernel, rfl, by decide +kernel, by decide +kernel⟩
abbrev s__law_stand_in : Stmt := topS 23
theorem sc__law_stand_in : FnScope ["_law_rows", "_law_p", "_law_x", "_law_y", "_law_z"] ["_law_rows", "_law_p", "_law_x", "_law_y", "_law_z"] (defScope s__law_stand_in) := ⟨rfl, rfl, rfl, by decide +kernel, rfl, by decide +kernel, by decide +kernel⟩
abbrev s__law_thinned : Stmt := topS 25
theorem sc__law_thinned : FnScope ["_law_drawn", "_law_rows", "_law_share", "_law_number", "_law_kept", "_law_u", "_law_v"] ["_law_drawn", "_law_rows", "_law_share"] (defScope s__law_thinned) := ⟨rfl, rfl, rfl, by decide +kernel, rfl, by decide +kernel, by decide +kernel⟩
abbrev s__law_begun : Stmt := topS 26
theorem sc__law_begun : FnScope ["_law_drawn", "_law_rows", "_law_number", "_law_web", "_law_points", "_law_turn", "_law_u", "_law_at"] ["_law_drawn", "_law_rows"] (defScope s__law_begun) := ⟨rfl, rfl, rfl, by decide +kernel, rfl, by decide +kernel, by decide +kernel⟩
abbrev s__law_ties : Stmt := topS 29
theorem sc__law_ties : FnScope ["_law_web", "_law_u", "_law_v"] ["_law_web"] (defScope s__law_ties) := ⟨rfl, rfl, rfl, by decide +kernel, rfl, by decide +kernel, by decide +kernel⟩
abbrev s__law_sum : Stmt := topS 30
theorem sc__law_sum : FnScope ["_law_x", "_law_y"] ["_law_x", "_law_y"] (defScope s__law_sum) := ⟨rfl, rfl, rfl, by decide +kernel, rfl, by decide +kernel, by decide +kernel⟩
abbrev s__law_is_length : Stmt := topS 33
theorem sc__law_is_length : FnScope ["_law_thing", "_law_part"] ["_law_thing"] (defScope s__law_is_length) := ⟨rfl, rfl, rfl, by decide +kernel, rfl, by decide +kernel, by decide +kernel⟩
abbrev s__law_refused : Stmt := topS 40
theorem sc__law_refused : FnScope ["_law_paper", "_law_goal", "error"] ["_law_paper", "_law_goal"] (defScope s__law_refused) := ⟨rfl, rfl, rfl, by decide +kernel, rfl, by decide +kernel, by decide +kernel⟩
abbrev s_added : Stmt := topS 6
theorem sc_added : FnScope ["x", "y"] ["x", "y"] (defScope s_added) := ⟨rfl, rfl, rfl, by decide +kernel, rfl, by decide +kernel, by decide +kernel⟩
abbrev s__law_full : Stmt := topS 24
theorem sc__law_full : FnScope ["_law_drawn", "_law_names_here", "_law_a", "_law_b", "_law_c", "_law_rows", "_law_steps_here", "_law_p", "_law_x", "_law_y", "_law_z"] ["_law_drawn", "_law_names_here"] (defScope s__law_full) := ⟨rfl, rfl, rfl, by decide +kernel, rfl, by decide +kernel, by decide +kernel⟩
abbrev s__law_lengths : Stmt := topS 34
theorem sc__law_lengths : FnScope ["_law_drawn", "_law_web", "_law_number", "_law_way", "_law_lengths_here", "_law_u", "_law_v", "_law_one"] ["_law_drawn", "_law_web"] (defScope s__law_lengths) := ⟨rfl, rfl, rfl, by decide +kernel, rfl, by decide +kernel, by decide +kernel⟩
abbrev s__law_far : Stmt := topS 35
theorem sc__law_far : FnScope ["_law_web", "_law_lengths_here", "_law_start", "_law_inside", "_law_far_here", "_law_changed", "_law_u", "_law_v", "_law_one"] ["_law_web", "_law_lengths_here", "_law_start", "_law_inside"] (defScope s__law_far) := ⟨rfl, rfl, rfl, by decide +kernel, rfl, by decide +kernel, by decide +kernel⟩
abbrev s__law_row_shaped : Stmt := topS 37
theorem sc__law_row_shaped : FnScope ["_law_row"] ["_law_row"] (defScope s__law_row_shaped) := ⟨rfl, rfl, rfl, by decide +kernel, rfl, by decide +kernel, by decide +kernel⟩
abbrev s__law_row_fits : Stmt := topS 38
theorem sc__law_row_fits : FnScope ["_law_web", "_law_lengths_here", "_law_paper", "_law_p", "_law_length", "_law_steps_here", "_law_u", "_law_far_here"] ["_law_web", "_law_lengths_here", "_law_paper", "_law_p"] (defScope s__law_row_fits) := ⟨rfl, rfl, rfl, by decide +kernel, rfl, by decide +kernel, by decide +kernel⟩
abbrev s__law_leads : Stmt := topS 41
theorem sc__law_leads : FnScope ["_law_web", "_law_lengths_here", "_law_start", "_law_goal", "_law_paper", "_law_way", "_law_whole", "_law_at", "_law_u", "_law_v"] ["_law_web", "_law_lengths_here", "_law_start", "_law_goal", "_law_paper"] (defScope s__law_leads) := ⟨rfl, rfl, rfl, by decide +kernel, rfl, by decide +kernel, by decide +kernel⟩
abbrev s_reach_from : Stmt := topS 12
theorem sc_reach_from : FnScope ["web", "lengths", "paper", "p", "length", "steps", "previous", "q", "far"] ["web", "lengths", "paper", "p"] (defScope s_reach_from) := ⟨rfl, rfl, rfl, by decide +kernel, rfl, by decide +kernel, by decide +kernel⟩
abbrev s__law_flat : Stmt := topS 27
theorem sc__law_flat : FnScope ["_law_drawn", "_law_most", "_law_number", "_law_names_here", "_law_cut", "_law_rows", "_law_part", "_law_p", "_law_full_here"] ["_law_drawn", "_law_most"] (defScope s__law_flat) := ⟨rfl, rfl, rfl, by decide +kernel, rfl, by decide +kernel, by decide +kernel⟩
abbrev s__law_is_way_paper : Stmt := topS 39
theorem sc__law_is_way_paper : FnScope ["_law_web", "_law_lengths_here", "_law_start", "_law_paper", "_law_p", "_law_far_here"] ["_law_web", "_law_lengths_here", "_law_start", "_law_paper"] (defScope s__law_is_way_paper) := ⟨rfl, rfl, rfl, by decide +kernel, rfl, by decide +kernel, by decide +kernel⟩
abbrev s_ways : Stmt := topS 13
theorem sc_ways : FnScope ["web", "lengths", "start", "paper", "p", "left", "at"] ["web", "lengths", "start"] (defScope s_ways) := ⟨rfl, rfl, rfl, by decide +kernel, rfl, by decide +kernel, by decide +kernel⟩
abbrev s__law_good : Stmt := topS 42
theorem sc__law_good : FnScope ["_law_web", "_law_lengths_here", "_law_start", "_law_paper", "_law_kept", "_law_goal"] ["_law_web", "_law_lengths_here", "_law_start"] (defScope s__law_good) := ⟨rfl, rfl, rfl, by decide +kernel, rfl, by decide +kernel, by decide +kernel⟩
abbrev s_law : Stmt := topS 43
theorem sc_law : FnScope ["_law_script", "_law_drawn", "_law_k", "_law_web", "_law_lengths_here", "_law_twin_here", "_law_same", "_law_points", "_law_j"] ["_law_script"] (defScope s_law) := ⟨rfl, rfl, rfl, by decide +kernel, rfl, by decide +kernel, by decide +kernel⟩
section
variable [Tabs] {P : Program} {w : World} {K : PySem.W.Frag} {mg : Str → Option Value} {base : Heap} {cA : Nat → Addr}
theorem ok_common {f : Addr} {fd : FuncData} (F : L2.Fun K "common" "common" s_common f fd) (hg : mg "common" = some (.ref f))  : Cal P w K mg base "common" 2 (spM K 2 g_common) 1 :=
  def_ok (b := b_common) F hg sc_common (fun _ _ _ _ _ _ us hl => match us, hl with | [_, _], _ => rfl) fun cdv A outer s H E hr =>
    (ms_cons (ms_while (ta := W1_common) (x := B1_common) (c_gt (me_var (i := 1)) me_int).2 (ms_one (ms_par sc_common.nd (me_var (i := 1)) (me_mod (me_var (i := 0)) (me_var (i := 1))))))
    (ms_one (ms_ret (me_var (i := 0)))))
theorem ok_is_below {f : Addr} {fd : FuncData} (F : L2.Fun K "is_below" "is_below" s_is_below f fd) (hg : mg "is_below" = some (.ref f))  : Cal P w K mg base "is_below" 2 (spM K 2 g_is_below) 1 :=
  def_ok (b := b_is_below) F hg sc_is_below (fun _ _ _ _ _ _ us hl => match us, hl with | [_, _], _ => rfl) fun cdv A outer s H E hr =>
    (ms_one (ms_ret (c_lt (me_mul (me_ix hr (me_var (i := 0)) me_int) (me_ix hr (me_var (i := 1)) me_int)) (me_mul (me_ix hr (me_var (i := 1)) me_int) (me_ix hr (me_var (i := 0)) me_int))).1))
theorem ok_tie_length {f : Addr} {fd : FuncData} (F : L2.Fun K "tie_length" "tie_length" s_tie_length f fd) (hg : mg "tie_length" = some (.ref f)) (m_max : mg "max" = none) (m_min : mg "min" = none) : Cal P w K mg base "tie_length" 3 (spM K 3 g_tie_length) 1 :=
  def_ok (b := b_tie_length) F hg sc_tie_length (fun _ _ _ _ _ _ us hl => match us, hl with | [_, _, _], _ => rfl) fun cdv A outer s H E hr =>
    (ms_one (ms_ret (me_ix hr (me_var (i := 0)) (me_tup (ma_cons (me_min2 m_min (ma_cons (me_var (i := 1)) (ma_cons (me_var (i := 2)) ma_nil))) (ma_cons (me_max2 m_max (ma_cons (me_var (i := 1)) (ma_cons (me_var (i := 2)) ma_nil))) ma_nil))))))
theorem ok_way_to {f : Addr} {fd : FuncData} (F : L2.Fun K "way_to" "way_to" s_way_to f fd) (hg : mg "way_to" = some (.ref f)) (m_tuple : mg "tuple" = none) (m_reversed : mg "reversed" = none) (XC_NoWay : XcOk K mg "NoWay" (cA 0)) : CalX (fun i => .ref (cA i)) P w K mg base "way_to" 2 g_way_to 1 :=
  def_okX (b := b_way_to) F hg sc_way_to (fun _ _ _ _ _ _ us hl => match us, hl with | [_, _], _ => rfl) fun cdv A outer s H E hr tk =>
    (mxs_cons (mx_if (c_isN (me_ix hr (me_var (i := 0)) (me_var (i := 1))) me_non).2 (mxs_one (mx_raise (k := 0) tk XC_NoWay rfl)) (mxs_lift ms_nil))
    (mxs_cons (mx_lift (ms_asg (me_box (mf_lst (ma_cons (me_var (i := 1)) ma_nil))) (mg_nm (n := 2) sc_way_to.nd)))
    (mxs_cons (mx_lift (ms_while (ta := W1_way_to) (x := B1_way_to) (hp := passes_of rfl) (c_notN (me_ix hr (me_ix hr (me_var (i := 0)) (me_ix hr (me_var (i := 2)) (me_neg me_int))) me_int) me_non).2 (ms_one (ms_expr (me_append (me_var (i := 2)) (me_ix hr (me_ix hr (me_var (i := 0)) (me_ix hr (me_var (i := 2)) (me_neg me_int))) me_int))))))
    (mxs_one (mx_lift (ms_ret (me_tupRevW m_tuple m_reversed (me_var (i := 2)))))))))
theorem ok__law_mixed {f : Addr} {fd : FuncData} (F : L2.Fun K "_law_mixed" "_law_mixed" s__law_mixed f fd) (hg : mg "_law_mixed" = some (.ref f))  : Cal P w K mg base "_law_mixed" 2 (spM K 2 g__law_mixed) 1 :=
  def_ok (b := b__law_mixed) F hg sc__law_mixed (fun _ _ _ _ _ _ us hl => match us, hl with | [_, _], _ => rfl) fun cdv A outer s H E hr =>
    (ms_cons (ms_asg (me_mod (me_add (me_add (me_mul (me_mod (me_var (i := 0)) me_int) me_int) (me_mul (me_mul me_int (me_var (i := 1))) (me_var (i := 1)))) me_int) me_int) (mg_nm (n := 2) sc__law_mixed.nd))
    (ms_one (ms_ret (me_mod (me_mul (me_var (i := 2)) (me_var (i := 2))) me_int))))
theorem ok__law_next {f : Addr} {fd : FuncData} (F : L2.Fun K "_law_next" "_law_next" s__law_next f fd) (hg : mg "_law_next" = some (.ref f))  : Cal P w K mg base "_law_next" 1 (spM K 1 g__law_next) 1 :=
  def_ok (b := b__law_next) F hg sc__law_next (fun _ _ _ _ _ _ us hl => match us, hl with | [_], _ => rfl) fun cdv A outer s H E hr =>
    (ms_cons (ms_if (c_eqA hr (me_var (i := 0)) (MF.me (mf_lst ma_nil))).2 (ms_one (ms_ret me_int)) ms_nil)
    (ms_one (ms_ret (me_popAt (me_var (i := 0)) me_int))))
theorem ok__law_behind {f : Addr} {fd : FuncData} (F : L2.Fun K "_law_behind" "_law_behind" s__law_behind f fd) (hg : mg "_law_behind" = some (.ref f)) (m_len : mg "len" = none) : Cal P w K mg base "_law_behind" 3 (spM K 3 g__law_behind) 1 :=
  def_ok (b := b__law_behind) F hg sc__law_behind (fun _ _ _ _ _ _ us hl => match us, hl with | [_, _, _], _ => rfl) fun cdv A outer s H E hr =>
    (ms_cons (ms_asg (me_ix hr (me_var (i := 0)) (me_var (i := 2))) (mg_nm (n := 3) sc__law_behind.nd))
    (ms_one (ms_ret (me_tup (ma_cons (me_var (i := 2)) (ma_cons (me_ix hr (me_var (i := 3)) (me_mod (me_add (me_indexL (me_var (i := 3)) (me_var (i := 1))) me_int) (me_len m_len (ma_cons (me_var (i := 3)) ma_nil)))) ma_nil))))))
theorem ok__law_steps {f : Addr} {fd : FuncData} (F : L2.Fun K "_law_steps" "_law_steps" s__law_steps f fd) (hg : mg "_law_steps" = some (.ref f)) (m_sorted : mg "sorted" = none) : Cal P w K mg base "_law_steps" 1 (spM K 1 g__law_steps) 1 :=
  def_ok (b := b__law_steps) F hg sc__law_steps (fun _ _ _ _ _ _ us hl => match us, hl with | [_], _ => rfl) fun cdv A outer s H E hr =>
    (ms_cons (ms_asg (me_box (mf_lst ma_nil)) (mg_nm (n := 1) sc__law_steps.nd))
    (ms_cons (ms_for (x := B1__law_steps) (mi_seq (MF.me (mf_sortKeys m_sorted (me_var (i := 0))))) (mg_nm (n := 2) sc__law_steps.nd) (ms_one (ms_for (x := B2__law_steps) (mi_seq (MF.me (mf_sorted m_sorted (ma_cons (me_ix hr (me_var (i := 0)) (me_var (i := 2))) ma_nil)))) (mg_nm (n := 3) sc__law_steps.nd) (ms_one (ms_expr (me_append (me_var (i := 1)) (me_tup (ma_cons (me_var (i := 2)) (ma_cons (me_var (i := 3)) ma_nil)))))))))
    (ms_one (ms_ret (me_var (i := 1))))))
theorem ok__law_put_behind {f : Addr} {fd : FuncData} (F : L2.Fun K "_law_put_behind" "_law_put_behind" s__law_put_behind f fd) (hg : mg "_law_put_behind" = some (.ref f))  : Cal P w K mg base "_law_put_behind" 3 (spM K 3 g__law_put_behind) 1 :=
  def_ok (b := b__law_put_behind) F hg sc__law_put_behind (fun _ _ _ _ _ _ us hl => match us, hl with | [_, _, _], _ => rfl) fun cdv A outer s H E hr =>
    (ms_cons (ms_asg (me_add (me_indexL (me_var (i := 0)) (me_var (i := 1))) me_int) (mg_nm (n := 3) sc__law_put_behind.nd))
    (ms_one (ms_ret (MF.me (mf_cat (MF.me (mf_cat (MF.me (mf_slL (me_var (i := 0)) mo_none (mo_some (me_var (i := 3))))) (MF.me (mf_lst (ma_cons (me_var (i := 2)) ma_nil))))) (MF.me (mf_slL (me_var (i := 0)) (mo_some (me_var (i := 3))) mo_none)))))))
theorem ok__law_twin {f : Addr} {fd : FuncData} (F : L2.Fun K "_law_twin" "_law_twin" s__law_twin f fd) (hg : mg "_law_twin" = some (.ref f))  : Cal P w K mg base "_law_twin" 1 (spM K 1 g__law_twin) 1 :=
  def_ok (b := b__law_twin) F hg sc__law_twin (fun _ _ _ _ _ _ us hl => match us, hl with | [_], _ => rfl) fun cdv A outer s H E hr =>
    (ms_cons (ms_asg (me_box mf_dnewK) (mg_nm (n := 1) sc__law_twin.nd))
    (ms_cons (ms_forK (n := 0) (x := B1__law_twin) rfl (mg_nm (n := 2) sc__law_twin.nd) (ms_one (ms_put hr (me_var (i := 1)) (me_var (i := 2)) (me_ix hr (me_var (i := 0)) (me_var (i := 2))))))
    (ms_one (ms_ret (me_var (i := 1))))))
theorem ok__law_low {f : Addr} {fd : FuncData} (F : L2.Fun K "_law_low" "_law_low" s__law_low f fd) (hg : mg "_law_low" = some (.ref f)) (m_abs : mg "abs" = none) : Cal P w K mg base "_law_low" 2 (spM K 2 g__law_low) 1 :=
  def_ok (b := b__law_low) F hg sc__law_low (fun _ _ _ _ _ _ us hl => match us, hl with | [_, _], _ => rfl) fun cdv A outer s H E hr =>
    (ms_cons (ms_par sc__law_low.nd (me_abs m_abs (ma_cons (me_var (i := 0)) ma_nil)) (me_var (i := 1)))
    (ms_cons (ms_while (ta := W1__law_low) (x := B1__law_low) (c_gt (me_var (i := 3)) me_int).2 (ms_one (ms_par sc__law_low.nd (me_var (i := 3)) (me_mod (me_var (i := 2)) (me_var (i := 3))))))
    (ms_one (ms_ret (me_tup (ma_cons (me_div (me_var (i := 0)) (me_var (i := 2))) (ma_cons (me_div (me_var (i := 1)) (me_var (i := 2))) ma_nil)))))))
theorem ok__law_before {f : Addr} {fd : FuncData} (F : L2.Fun K "_law_before" "_law_before" s__law_before f fd) (hg : mg "_law_before" = some (.ref f))  : Cal P w K mg base "_law_before" 2 (spM K 2 g__law_before) 1 :=
  def_ok (b := b__law_before) F hg sc__law_before (fun _ _ _ _ _ _ us hl => match us, hl with | [_, _], _ => rfl) fun cdv A outer s H E hr =>
    (ms_one (ms_ret (c_lt (me_mul (me_ix hr (me_var (i := 0)) me_int) (me_ix hr (me_var (i := 1)) me_int)) (me_mul (me_ix hr (me_var (i := 1)) me_int) (me_ix hr (me_var (i := 0)) me_int))).1))
theorem ok__law_all {f : Addr} {fd : FuncData} (F : L2.Fun K "_law_all" "_law_all" s__law_all f fd) (hg : mg "_law_all" = some (.ref f)) (m_dict : mg "dict" = none) : Cal P w K mg base "_law_all" 1 (spM K 1 g__law_all) 1 :=
  def_ok (b := b__law_all) F hg sc__law_all (fun _ _ _ _ _ _ us hl => match us, hl with | [_], _ => rfl) fun cdv A outer s H E hr =>
    (ms_one (ms_ret (MF.me (mf_dictP m_dict (ma_cons (MF.me (mf_lcK sc__law_all.nd (own := [("_law_p", 1)]) (n := 0) rfl (show blkC ["_law_web", "_law_p"] (defScope s__law_all) _ _ = true from by decide +kernel) (tgok_nm (by decide)) (fun _ _ _ _ _ => (pg_name (i := 1) sc__law_all.nd rfl (Or.inl rfl))) (fun _ _ _ _ _ => mts_nil) (fun _ _ _ _ _ => (me_tup (ma_cons (me_var (i := 1)) (ma_cons me_bl ma_nil)))))) ma_nil)))))
theorem ok_fraction {f : Addr} {fd : FuncData} (F : L2.Fun K "fraction" "fraction" s_fraction f fd) (hg : mg "fraction" = some (.ref f)) (C_common : Cal P w K mg base "common" 2 (spM K 2 g_common) 1) (m_abs : mg "abs" = none) : Cal P w K mg base "fraction" 2 (spM K 2 g_fraction) 2 :=
  def_ok (b := b_fraction) F hg sc_fraction (fun _ _ _ _ _ _ us hl => match us, hl with | [_, _], _ => rfl) fun cdv A outer s H E hr =>
    (ms_cons (ms_if (c_lt (me_var (i := 1)) me_int).2 (ms_cons (ms_asg (me_sub me_int (me_var (i := 0))) (mg_nm (n := 0) sc_fraction.nd))
    (ms_one (ms_asg (me_sub me_int (me_var (i := 1))) (mg_nm (n := 1) sc_fraction.nd)))) ms_nil)
    (ms_cons (ms_asg (me_call C_common hr (ma_cons (me_abs m_abs (ma_cons (me_var (i := 0)) ma_nil)) (ma_cons (me_var (i := 1)) ma_nil))) (mg_nm (n := 2) sc_fraction.nd))
    (ms_one (ms_ret (me_tup (ma_cons (me_div (me_var (i := 0)) (me_var (i := 2))) (ma_cons (me_div (me_var (i := 1)) (me_var (i := 2))) ma_nil)))))))
theorem ok_nearest {f : Addr} {fd : FuncData} (F : L2.Fun K "nearest" "nearest" s_nearest f fd) (hg : mg "nearest" = some (.ref f)) (C_is_below : Cal P w K mg base "is_below" 2 (spM K 2 g_is_below) 1) (m_range : mg "range" = none) (m_len : mg "len" = none) : Cal P w K mg base "nearest" 2 (spM K 2 g_nearest) 2 :=
  def_ok (b := b_nearest) F hg sc_nearest (fun _ _ _ _ _ _ us hl => match us, hl with | [_, _], _ => rfl) fun cdv A outer s H E hr =>
    (ms_cons (ms_asg me_non (mg_nm (n := 2) sc_nearest.nd))
    (ms_cons (ms_for (x := B1_nearest) (mi_range1 m_range (me_len m_len (ma_cons (me_var (i := 1)) ma_nil))) (mg_nm (n := 3) sc_nearest.nd) (ms_cons (ms_asg (me_ix hr (me_var (i := 0)) (me_ix hr (me_var (i := 1)) (me_var (i := 3)))) (mg_nm (n := 4) sc_nearest.nd))
    (ms_one (ms_if (PW.pt (mw_and (c_notN (me_var (i := 4)) me_non).2 (mw_and1 (PW.pt (mw_or (c_isN (me_var (i := 2)) me_non).2 (mw_or1 (mt_val (me_call C_is_below hr (ma_cons (me_ix hr (me_var (i := 4)) me_int) (ma_cons (me_ix hr (me_ix hr (me_var (i := 0)) (me_ix hr (me_var (i := 1)) (me_var (i := 2)))) me_int) ma_nil)))))))))) (ms_one (ms_asg (me_var (i := 3)) (mg_nm (n := 2) sc_nearest.nd))) ms_nil))))
    (ms_one (ms_ret (me_var (i := 2))))))
theorem ok__law_draws {f : Addr} {fd : FuncData} (F : L2.Fun K "_law_draws" "_law_draws" s__law_draws f fd) (hg : mg "_law_draws" = some (.ref f)) (C__law_mixed : Cal P w K mg base "_law_mixed" 2 (spM K 2 g__law_mixed) 1) (m_range : mg "range" = none) (m_min : mg "min" = none) (m_len : mg "len" = none) (m_abs : mg "abs" = none) : Cal P w K mg base "_law_draws" 1 (spM K 1 g__law_draws) 2 :=
  def_ok (b := b__law_draws) F hg sc__law_draws (fun _ _ _ _ _ _ us hl => match us, hl with | [_], _ => rfl) fun cdv A outer s H E hr =>
    (ms_cons (ms_asg (me_box (mf_lst ma_nil)) (mg_nm (n := 1) sc__law_draws.nd))
    (ms_cons (ms_for (x := B1__law_draws) (mi_range1 m_range (me_min2 m_min (ma_cons (me_len m_len (ma_cons (me_var (i := 0)) ma_nil)) (ma_cons me_int ma_nil)))) (mg_nm (n := 2) sc__law_draws.nd) (ms_cons (ms_asg (me_abs m_abs (ma_cons (me_ix hr (me_var (i := 0)) (me_var (i := 2))) ma_nil)) (mg_nm (n := 3) sc__law_draws.nd))
    (ms_cons (ms_if (c_lt (me_var (i := 3)) (me_pow me_int me_int)).2 (ms_one (ms_for (x := B2__law_draws) (mi_range1 m_range me_int) (mg_nm (n := 4) sc__law_draws.nd) (ms_one (ms_expr (me_append (me_var (i := 1)) (me_call C__law_mixed hr (ma_cons (me_call C__law_mixed hr (ma_cons (me_var (i := 3)) (ma_cons (me_add (me_mul me_int (me_var (i := 4))) me_int) ma_nil))) (ma_cons (me_add (me_add (me_var (i := 4)) (me_var (i := 2))) me_int) ma_nil)))))))) ms_nil)
    (ms_cons (ms_while (ta := W3__law_draws) (x := B3__law_draws) (PW.pt (mw_and (c_ge (me_var (i := 3)) (me_pow me_int me_int)).2 (mw_and1 (c_lt (me_len m_len (ma_cons (me_var (i := 1)) ma_nil)) me_int).2))) (ms_cons (ms_expr (me_append (me_var (i := 1)) (me_mod (me_var (i := 3)) me_int)))
    (ms_one (ms_asg (me_div (me_var (i := 3)) me_int) (mg_nm (n := 3) sc__law_draws.nd)))))
    (ms_one (ms_if (c_ge (me_var (i := 3)) me_int).2 (ms_one (ms_expr (me_append (me_var (i := 1)) (me_mod (me_var (i := 3)) me_int)))) ms_nil))))))
    (ms_one (ms_ret (me_var (i := 1))))))
theorem ok__law_names {f : Addr} {fd : FuncData} (F : L2.Fun K "_law_names" "_law_names" s__law_names f fd) (hg : mg "_law_names" = some (.ref f)) (C__law_next : Cal P w K mg base "_law_next" 1 (spM K 1 g__law_next) 1) (m_range : mg "range" = none) : Cal P w K mg base "_law_names" 2 (spM K 2 g__law_names) 2 :=
  def_ok (b := b__law_names) F hg sc__law_names (fun _ _ _ _ _ _ us hl => match us, hl with | [_, _], _ => rfl) fun cdv A outer s H E hr =>
    (ms_cons (ms_asg (me_call C__law_next hr (ma_cons (me_var (i := 0)) ma_nil)) (mg_nm (n := 2) sc__law_names.nd))
    (ms_cons (ms_asg (me_ix hr (MF.me (mf_lst (ma_cons me_int (ma_cons me_int (ma_cons me_int (ma_cons me_int (ma_cons me_int (ma_cons me_int (ma_cons me_int (ma_cons me_int (ma_cons me_int (ma_cons me_int ma_nil)))))))))))) (me_mod (me_div (me_var (i := 2)) me_int) me_int)) (mg_nm (n := 3) sc__law_names.nd))
    (ms_one (ms_ret (MF.me (mf_lc sc__law_names.nd (own := [("_law_k", 4)]) (mi_range1 m_range (me_var (i := 1))) (show blkC ["_law_drawn", "_law_many", "_law_number", "_law_step", "_law_k"] (defScope s__law_names) _ _ = true from by decide +kernel) (tgok_nm (by decide)) (fun _ _ _ _ _ => (pg_name (i := 4) sc__law_names.nd rfl (Or.inl rfl))) (fun _ _ _ _ _ => mts_nil) (fun _ _ _ _ _ => (me_mod (me_add (me_mod (me_var (i := 2)) me_int) (me_mul (me_var (i := 4)) (me_var (i := 3)))) me_int))))))))
theorem ok__law_stand_in {f : Addr} {fd : FuncData} (F : L2.Fun K "_law_stand_in" "_law_stand_in" s__law_stand_in f fd) (hg : mg "_law_stand_in" = some (.ref f)) (C__law_put_behind : Cal P w K mg base "_law_put_behind" 3 (spM K 3 g__law_put_behind) 1) : Cal P w K mg base "_law_stand_in" 5 (spM K 5 g__law_stand_in) 2 :=
  def_ok (b := b__law_stand_in) F hg sc__law_stand_in (fun _ _ _ _ _ _ us hl => match us, hl with | [_, _, _, _, _], _ => rfl) fun cdv A outer s H E hr =>
    (ms_cons (ms_put hr (me_var (i := 0)) (me_var (i := 3)) (me_call C__law_put_behind hr (ma_cons (me_ix hr (me_var (i := 0)) (me_var (i := 3))) (ma_cons (me_var (i := 2)) (ma_cons (me_var (i := 1)) ma_nil)))))
    (ms_cons (ms_put hr (me_var (i := 0)) (me_var (i := 4)) (me_call C__law_put_behind hr (ma_cons (me_ix hr (me_var (i := 0)) (me_var (i := 4))) (ma_cons (me_var (i := 3)) (ma_cons (me_var (i := 1)) ma_nil)))))
    (ms_cons (ms_put hr (me_var (i := 0)) (me_var (i := 2)) (me_call C__law_put_behind hr (ma_cons (me_ix hr (me_var (i := 0)) (me_var (i := 2))) (ma_cons (me_var (i := 4)) (ma_cons (me_var (i := 1)) ma_nil)))))
    (ms_one (ms_put hr (me_var (i := 0)) (me_var (i := 1)) (MF.me (mf_lst (ma_cons (me_var (i := 3)) (ma_cons (me_var (i := 2)) (ma_cons (me_var (i := 4)) ma_nil))))))))))
theorem ok__law_thinned {f : Addr} {fd : FuncData} (F : L2.Fun K "_law_thinned" "_law_thinned" s__law_thinned f fd) (hg : mg "_law_thinned" = some (.ref f)) (C__law_next : Cal P w K mg base "_law_next" 1 (spM K 1 g__law_next) 1) (C__law_mixed : Cal P w K mg base "_law_mixed" 2 (spM K 2 g__law_mixed) 1) (m_max : mg "max" = none) (m_min : mg "min" = none) : Cal P w K mg base "_law_thinned" 3 (spM K 3 g__law_thinned) 2 :=
  def_ok (b := b__law_thinned) F hg sc__law_thinned (fun _ _ _ _ _ _ us hl => match us, hl with | [_, _, _], _ => rfl) fun cdv A outer s H E hr =>
    (ms_cons (ms_asg (me_call C__law_next hr (ma_cons (me_var (i := 0)) ma_nil)) (mg_nm (n := 3) sc__law_thinned.nd))
    (ms_cons (ms_asg (me_box mf_dnewK) (mg_nm (n := 4) sc__law_thinned.nd))
    (ms_cons (ms_forK (n := 1) (x := B1__law_thinned) rfl (mg_nm (n := 5) sc__law_thinned.nd) (ms_one (ms_put hr (me_var (i := 4)) (me_var (i := 5)) (MF.me (mf_lc sc__law_thinned.nd (own := [("_law_v", 6)]) (mi_seq (me_ix hr (me_var (i := 1)) (me_var (i := 5)))) (show blkC ["_law_drawn", "_law_rows", "_law_share", "_law_number", "_law_kept", "_law_u", "_law_v"] (defScope s__law_thinned) _ _ = true from by decide +kernel) (tgok_nm (by decide)) (fun _ _ _ _ _ => (pg_name (i := 6) sc__law_thinned.nd rfl (Or.inl rfl))) (fun _ _ _ _ _ => (mts_one (c_ge (me_mod (me_call C__law_mixed hr (ma_cons (me_add (me_var (i := 3)) (me_min2 m_min (ma_cons (me_var (i := 5)) (ma_cons (me_var (i := 6)) ma_nil)))) (ma_cons (me_max2 m_max (ma_cons (me_var (i := 5)) (ma_cons (me_var (i := 6)) ma_nil))) ma_nil))) me_int) (me_var (i := 2))).2)) (fun _ _ _ _ _ => (me_var (i := 6))))))))
    (ms_one (ms_ret (me_var (i := 4)))))))
theorem ok__law_begun {f : Addr} {fd : FuncData} (F : L2.Fun K "_law_begun" "_law_begun" s__law_begun f fd) (hg : mg "_law_begun" = some (.ref f)) (C__law_next : Cal P w K mg base "_law_next" 1 (spM K 1 g__law_next) 1) (C__law_mixed : Cal P w K mg base "_law_mixed" 2 (spM K 2 g__law_mixed) 1) (m_list : mg "list" = none) (m_max : mg "max" = none) (m_len : mg "len" = none) (m_tuple : mg "tuple" = none) : Cal P w K mg base "_law_begun" 2 (spM K 2 g__law_begun) 2 :=
  def_ok (b := b__law_begun) F hg sc__law_begun (fun _ _ _ _ _ _ us hl => match us, hl with | [_, _], _ => rfl) fun cdv A outer s H E hr =>
    (ms_cons (ms_asg (me_call C__law_next hr (ma_cons (me_var (i := 0)) ma_nil)) (mg_nm (n := 2) sc__law_begun.nd))
    (ms_cons (ms_asg (me_box mf_dnewK) (mg_nm (n := 3) sc__law_begun.nd))
    (ms_cons (ms_asg (MF.me (mf_listKeys m_list (me_var (i := 1)))) (mg_nm (n := 4) sc__law_begun.nd))
    (ms_cons (ms_asg (me_mod (me_var (i := 2)) (me_max2 m_max (ma_cons me_int (ma_cons (me_len m_len (ma_cons (me_var (i := 4)) ma_nil)) ma_nil)))) (mg_nm (n := 5) sc__law_begun.nd))
    (ms_cons (ms_for (x := B1__law_begun) (mi_seq (MF.me (mf_cat (MF.me (mf_slL (me_var (i := 4)) (mo_some (me_var (i := 5))) mo_none)) (MF.me (mf_slL (me_var (i := 4)) mo_none (mo_some (me_var (i := 5)))))))) (mg_nm (n := 6) sc__law_begun.nd) (ms_cons (ms_asg (me_mod (me_call C__law_mixed hr (ma_cons (me_var (i := 2)) (ma_cons (me_add (me_var (i := 6)) me_int) ma_nil))) (me_max2 m_max (ma_cons me_int (ma_cons (me_len m_len (ma_cons (me_ix hr (me_var (i := 1)) (me_var (i := 6))) ma_nil)) ma_nil)))) (mg_nm (n := 7) sc__law_begun.nd))
    (ms_one (ms_put hr (me_var (i := 3)) (me_var (i := 6)) (me_tuple m_tuple (ma_cons (MF.me (mf_cat (MF.me (mf_slL (me_ix hr (me_var (i := 1)) (me_var (i := 6))) (mo_some (me_var (i := 7))) mo_none)) (MF.me (mf_slL (me_ix hr (me_var (i := 1)) (me_var (i := 6))) mo_none (mo_some (me_var (i := 7))))))) ma_nil))))))
    (ms_one (ms_ret (me_var (i := 3)))))))))
theorem ok__law_ties {f : Addr} {fd : FuncData} (F : L2.Fun K "_law_ties" "_law_ties" s__law_ties f fd) (hg : mg "_law_ties" = some (.ref f)) (C__law_steps : Cal P w K mg base "_law_steps" 1 (spF K 1 (toldF Ew.g__law_steps)) 1) (m_sorted : mg "sorted" = none) : Cal P w K mg base "_law_ties" 1 (spM K 1 g__law_ties) 2 :=
  def_ok (b := b__law_ties) F hg sc__law_ties (fun _ _ _ _ _ _ us hl => match us, hl with | [_], _ => rfl) fun cdv A outer s H E hr =>
    (ms_one (ms_ret (MF.me (mf_sorted m_sorted (ma_cons (MF.me (mf_lc sc__law_ties.nd (own := [("_law_u", 1), ("_law_v", 2)]) (mi_seq (MF.me (mf_call C__law_steps hr (ma_cons (me_var (i := 0)) ma_nil)))) (show blkC ["_law_web", "_law_u", "_law_v"] (defScope s__law_ties) _ _ = true from by decide +kernel) (tgok_2 (by decide) (by decide)) (fun _ _ _ _ _ => (pg_tup rfl (pgs_cons (pg_name (i := 1) sc__law_ties.nd rfl (Or.inl rfl)) (pgs_cons (pg_name (i := 2) sc__law_ties.nd rfl (Or.inl rfl)) pgs_nil)))) (fun _ _ _ _ _ => (mts_one (c_lt (me_var (i := 1)) (me_var (i := 2))).2)) (fun _ _ _ _ _ => (me_tup (ma_cons (me_var (i := 1)) (ma_cons (me_var (i := 2)) ma_nil)))))) ma_nil)))))
theorem ok__law_sum {f : Addr} {fd : FuncData} (F : L2.Fun K "_law_sum" "_law_sum" s__law_sum f fd) (hg : mg "_law_sum" = some (.ref f)) (C__law_low : Cal P w K mg base "_law_low" 2 (spM K 2 g__law_low) 1) : Cal P w K mg base "_law_sum" 2 (spM K 2 g__law_sum) 2 :=
  def_ok (b := b__law_sum) F hg sc__law_sum (fun _ _ _ _ _ _ us hl => match us, hl with | [_, _], _ => rfl) fun cdv A outer s H E hr =>
    (ms_one (ms_ret (me_call C__law_low hr (ma_cons (me_add (me_mul (me_ix hr (me_var (i := 0)) me_int) (me_ix hr (me_var (i := 1)) me_int)) (me_mul (me_ix hr (me_var (i := 1)) me_int) (me_ix hr (me_var (i := 0)) me_int))) (ma_cons (me_mul (me_ix hr (me_var (i := 0)) me_int) (me_ix hr (me_var (i := 1)) me_int)) ma_nil)))))
theorem ok__law_is_length {f : Addr} {fd : FuncData} (F : L2.Fun K "_law_is_length" "_law_is_length" s__law_is_length f fd) (hg : mg "_law_is_length" = some (.ref f)) (C__law_low : Cal P w K mg base "_law_low" 2 (spM K 2 g__law_low) 1) (m_len : mg "len" = none) (m_isinstance : mg "isinstance" = none) (m_tuple : mg "tuple" = none) (m_bool : mg "bool" = none) (m_int : mg "int" = none) : Cal P w K mg base "_law_is_length" 1 (spM K 1 g__law_is_length) 2 :=
  def_ok (b := b__law_is_length) F hg sc__law_is_length (fun _ _ _ _ _ _ us hl => match us, hl with | [_], _ => rfl) fun cdv A outer s H E hr =>
    (ms_cons (ms_if (PW.pt (mw_or (mt_not (mt_val (me_isi (tn := "tuple") m_isinstance (me_var (i := 0)) m_tuple (by decide +kernel) (by decide +kernel)))) (mw_or1 (c_neA hr (me_len m_len (ma_cons (me_var (i := 0)) ma_nil)) me_int).2))) (ms_one (ms_ret me_bl)) ms_nil)
    (ms_cons (ms_for (x := B1__law_is_length) (mi_seq (me_var (i := 0))) (mg_nm (n := 1) sc__law_is_length.nd) (ms_one (ms_if (PW.pt (mw_or (mt_not (mt_val (me_isi (tn := "int") m_isinstance (me_var (i := 1)) m_int (by decide +kernel) (by decide +kernel)))) (mw_or1 (mt_val (me_isi (tn := "bool") m_isinstance (me_var (i := 1)) m_bool (by decide +kernel) (by decide +kernel)))))) (ms_one (ms_ret me_bl)) ms_nil)))
    (ms_one (ms_ret (me_and (c_gt (me_ix hr (me_var (i := 0)) me_int) me_int).1 (me_one (c_eqA hr (me_var (i := 0)) (me_call C__law_low hr (ma_cons (me_ix hr (me_var (i := 0)) me_int) (ma_cons (me_ix hr (me_var (i := 0)) me_int) ma_nil)))).1))))))
theorem ok__law_refused {f : Addr} {fd : FuncData} (F : L2.Fun K "_law_refused" "_law_refused" s__law_refused f fd) (hg : mg "_law_refused" = some (.ref f)) (C_way_to : CalX (fun i => .ref (cA i)) P w K mg base "way_to" 2 (toldX Ew.g_way_to) 1) (m_isinstance : mg "isinstance" = none) (m_ValueError : mg "ValueError" = none) (XC_WallsError : XcOk K mg "WallsError" (cA 1)) (XC_NoWay : XcOk K mg "NoWay" (cA 0)) (XI_ValueError : XisOk (fun i => .ref (cA i)) K 2 (.type "ValueError") (fun _ => true)) (XI_NoWay : XisOk (fun i => .ref (cA i)) K 2 (.ref (cA 0)) (fun c => subC c 0)) (XM : ∀ c d, c < 2 → d < 2 → PySem.W.exmOne K (.ref (cA c)) (.ref (cA d)) = some (subC c d)) : Cal P w K mg base "_law_refused" 2 (spM K 2 g__law_refused) 2 :=
  def_ok (b := b__law_refused) F hg sc__law_refused (fun _ _ _ _ _ _ us hl => match us, hl with | [_, _], _ => rfl) fun cdv A outer s H E hr =>
    (ms_cons (ms_tryAsR (cv := fun i => .ref (cA i)) (n := 2) (i := 2) (d := 1) (sub := subC) XM (by decide) ⟨rfl, by decide +kernel, Or.inl XC_WallsError.g⟩ sc__law_refused.nd (fun W pn xe tk po => (mxs_one (mx_expr C_way_to tk hr (ma_cons (me_var (i := 0)) (ma_cons (me_var (i := 1)) ma_nil))))) (ise_and (ise_own m_isinstance XC_NoWay.g XI_NoWay) (ise_ty m_isinstance m_ValueError rfl XI_ValueError)))
    (ms_one (ms_ret me_bl)))
theorem ok_added {f : Addr} {fd : FuncData} (F : L2.Fun K "added" "added" s_added f fd) (hg : mg "added" = some (.ref f)) (C_fraction : Cal P w K mg base "fraction" 2 (spM K 2 g_fraction) 2) : Cal P w K mg base "added" 2 (spM K 2 g_added) 3 :=
  def_ok (b := b_added) F hg sc_added (fun _ _ _ _ _ _ us hl => match us, hl with | [_, _], _ => rfl) fun cdv A outer s H E hr =>
    (ms_one (ms_ret (me_call C_fraction hr (ma_cons (me_add (me_mul (me_ix hr (me_var (i := 0)) me_int) (me_ix hr (me_var (i := 1)) me_int)) (me_mul (me_ix hr (me_var (i := 1)) me_int) (me_ix hr (me_var (i := 0)) me_int))) (ma_cons (me_mul (me_ix hr (me_var (i := 0)) me_int) (me_ix hr (me_var (i := 1)) me_int)) ma_nil)))))
theorem ok__law_full {f : Addr} {fd : FuncData} (F : L2.Fun K "_law_full" "_law_full" s__law_full f fd) (hg : mg "_law_full" = some (.ref f)) (C__law_next : Cal P w K mg base "_law_next" 1 (spM K 1 g__law_next) 1) (C__law_behind : Cal P w K mg base "_law_behind" 3 (spM K 3 g__law_behind) 1) (C__law_stand_in : Cal P w K mg base "_law_stand_in" 5 (spM K 5 g__law_stand_in) 2) (m_len : mg "len" = none) : Cal P w K mg base "_law_full" 2 (spM K 2 g__law_full) 3 :=
  def_ok (b := b__law_full) F hg sc__law_full (fun _ _ _ _ _ _ us hl => match us, hl with | [_, _], _ => rfl) fun cdv A outer s H E hr =>
    (ms_cons (ms_asg (MF.me (mf_slL (me_var (i := 1)) mo_none (mo_some me_int))) (mg_unl (mgs_cons (mg_nm (n := 2) sc__law_full.nd) (mgs_cons (mg_nm (n := 3) sc__law_full.nd) (mgs_cons (mg_nm (n := 4) sc__law_full.nd) mgs_nil)))))
    (ms_cons (ms_asg (me_box (mf_disp (mp_cons (me_var (i := 2)) (MF.me (mf_lst (ma_cons (me_var (i := 3)) (ma_cons (me_var (i := 4)) ma_nil)))) (mp_cons (me_var (i := 3)) (MF.me (mf_lst (ma_cons (me_var (i := 4)) (ma_cons (me_var (i := 2)) ma_nil)))) (mp_cons (me_var (i := 4)) (MF.me (mf_lst (ma_cons (me_var (i := 2)) (ma_cons (me_var (i := 3)) ma_nil)))) mp_nil))))) (mg_nm (n := 5) sc__law_full.nd))
    (ms_cons (ms_asg (MF.me (mf_lst (ma_cons (me_tup (ma_cons (me_var (i := 2)) (ma_cons (me_var (i := 3)) ma_nil))) (ma_cons (me_tup (ma_cons (me_var (i := 3)) (ma_cons (me_var (i := 2)) ma_nil))) ma_nil)))) (mg_nm (n := 6) sc__law_full.nd))
    (ms_cons (ms_for (x := B1__law_full) (mi_seq (MF.me (mf_slL (me_var (i := 1)) (mo_some me_int) mo_none))) (mg_nm (n := 7) sc__law_full.nd) (ms_cons (ms_asg (me_ix hr (me_var (i := 6)) (me_mod (me_call C__law_next hr (ma_cons (me_var (i := 0)) ma_nil)) (me_len m_len (ma_cons (me_var (i := 6)) ma_nil)))) (mg_tup (mgs_cons (mg_nm (n := 8) sc__law_full.nd) (mgs_cons (mg_nm (n := 9) sc__law_full.nd) mgs_nil))))
    (ms_cons (ms_asg (me_ix hr (me_call C__law_behind hr (ma_cons (me_var (i := 5)) (ma_cons (me_var (i := 8)) (ma_cons (me_var (i := 9)) ma_nil)))) me_int) (mg_nm (n := 10) sc__law_full.nd))
    (ms_cons (ms_expr (me_call C__law_stand_in hr (ma_cons (me_var (i := 5)) (ma_cons (me_var (i := 7)) (ma_cons (me_var (i := 8)) (ma_cons (me_var (i := 9)) (ma_cons (me_var (i := 10)) ma_nil)))))))
    (ms_one (ms_asg (MF.me (mf_cat (me_var (i := 6)) (MF.me (mf_lst (ma_cons (me_tup (ma_cons (me_var (i := 8)) (ma_cons (me_var (i := 7)) ma_nil))) (ma_cons (me_tup (ma_cons (me_var (i := 9)) (ma_cons (me_var (i := 7)) ma_nil))) (ma_cons (me_tup (ma_cons (me_var (i := 10)) (ma_cons (me_var (i := 7)) ma_nil))) (ma_cons (me_tup (ma_cons (me_var (i := 8)) (ma_cons (me_var (i := 9)) ma_nil))) ma_nil)))))))) (mg_nm (n := 6) sc__law_full.nd)))))))
    (ms_one (ms_ret (me_var (i := 5))))))))
theorem ok__law_lengths {f : Addr} {fd : FuncData} (F : L2.Fun K "_law_lengths" "_law_lengths" s__law_lengths f fd) (hg : mg "_law_lengths" = some (.ref f)) (C__law_next : Cal P w K mg base "_law_next" 1 (spM K 1 g__law_next) 1) (C__law_ties : Cal P w K mg base "_law_ties" 1 (spM K 1 g__law_ties) 2) (C__law_mixed : Cal P w K mg base "_law_mixed" 2 (spM K 2 g__law_mixed) 1) (C__law_low : Cal P w K mg base "_law_low" 2 (spM K 2 g__law_low) 1) : Cal P w K mg base "_law_lengths" 2 (spM K 2 g__law_lengths) 3 :=
  def_ok (b := b__law_lengths) F hg sc__law_lengths (fun _ _ _ _ _ _ us hl => match us, hl with | [_, _], _ => rfl) fun cdv A outer s H E hr =>
    (ms_cons (ms_asg (me_call C__law_next hr (ma_cons (me_var (i := 0)) ma_nil)) (mg_nm (n := 2) sc__law_lengths.nd))
    (ms_cons (ms_asg (me_mod (me_var (i := 2)) me_int) (mg_nm (n := 3) sc__law_lengths.nd))
    (ms_cons (ms_asg (me_box mf_dnewT) (mg_nm (n := 4) sc__law_lengths.nd))
    (ms_cons (ms_for (x := B1__law_lengths) (mi_seq (me_call C__law_ties hr (ma_cons (me_var (i := 1)) ma_nil))) (mg_tup (mgs_cons (mg_nm (n := 5) sc__law_lengths.nd) (mgs_cons (mg_nm (n := 6) sc__law_lengths.nd) mgs_nil))) (ms_cons (ms_asg (me_call C__law_mixed hr (ma_cons (me_add (me_var (i := 2)) (me_var (i := 5))) (ma_cons (me_add (me_var (i := 6)) me_int) ma_nil))) (mg_nm (n := 7) sc__law_lengths.nd))
    (ms_cons (ms_put hr (me_var (i := 4)) (me_tup (ma_cons (me_var (i := 5)) (ma_cons (me_var (i := 6)) ma_nil))) (me_ix hr (MF.me (mf_lst (ma_cons (me_call C__law_low hr (ma_cons (me_mod (me_var (i := 7)) me_int) (ma_cons (me_add me_int (me_mod (me_div (me_var (i := 7)) me_int) me_int)) ma_nil))) (ma_cons (me_tup (ma_cons (me_add me_int (me_mod (me_var (i := 7)) me_int)) (ma_cons me_int ma_nil))) (ma_cons (me_tup (ma_cons (me_mod (me_var (i := 7)) me_int) (ma_cons (me_sub me_int (me_mod (me_var (i := 7)) me_int)) ma_nil))) (ma_cons (me_tup (ma_cons me_int (ma_cons me_int ma_nil))) (ma_cons (me_call C__law_low hr (ma_cons (me_sub me_int (me_mod (me_var (i := 7)) me_int)) (ma_cons (me_add me_int (me_mod (me_var (i := 7)) me_int)) ma_nil))) ma_nil))))))) (me_var (i := 3))))
    (ms_cons (ms_if (c_eqA hr (me_ix hr (me_ix hr (me_var (i := 4)) (me_tup (ma_cons (me_var (i := 5)) (ma_cons (me_var (i := 6)) ma_nil)))) me_int) me_int).2 (ms_one (ms_put hr (me_var (i := 4)) (me_tup (ma_cons (me_var (i := 5)) (ma_cons (me_var (i := 6)) ma_nil))) (me_tup (ma_cons me_int (ma_cons me_int ma_nil))))) ms_nil)
    (ms_one (ms_if (PW.pt (mw_and (c_eqA hr (me_ix hr (me_ix hr (me_var (i := 4)) (me_tup (ma_cons (me_var (i := 5)) (ma_cons (me_var (i := 6)) ma_nil)))) me_int) me_int).2 (mw_and1 (c_eqA hr (me_mod (me_ix hr (me_ix hr (me_var (i := 4)) (me_tup (ma_cons (me_var (i := 5)) (ma_cons (me_var (i := 6)) ma_nil)))) me_int) me_int) me_int).2))) (ms_one (ms_put hr (me_var (i := 4)) (me_tup (ma_cons (me_var (i := 5)) (ma_cons (me_var (i := 6)) ma_nil))) (me_tup (ma_cons me_int (ma_cons me_int ma_nil))))) ms_nil))))))
    (ms_one (ms_ret (me_var (i := 4))))))))
theorem ok__law_far {f : Addr} {fd : FuncData} (F : L2.Fun K "_law_far" "_law_far" s__law_far f fd) (hg : mg "_law_far" = some (.ref f)) (C__law_steps : Cal P w K mg base "_law_steps" 1 (spF K 1 (toldF Ew.g__law_steps)) 1) (C__law_sum : Cal P w K mg base "_law_sum" 2 (spM K 2 g__law_sum) 2) (C__law_before : Cal P w K mg base "_law_before" 2 (spM K 2 g__law_before) 1) (m_max : mg "max" = none) (m_min : mg "min" = none) : Cal P w K mg base "_law_far" 4 (spM K 4 g__law_far) 3 :=
  def_ok (b := b__law_far) F hg sc__law_far (fun _ _ _ _ _ _ us hl => match us, hl with | [_, _, _, _], _ => rfl) fun cdv A outer s H E hr =>
    (ms_cons (ms_asg (me_box (mf_disp (mp_cons (me_var (i := 2)) (me_tup (ma_cons me_int (ma_cons me_int ma_nil))) mp_nil))) (mg_nm (n := 4) sc__law_far.nd))
    (ms_cons (ms_asg me_bl (mg_nm (n := 5) sc__law_far.nd))
    (ms_cons (ms_while (ta := W1__law_far) (x := B1__law_far) (mt_val (me_var (i := 5))) (ms_cons (ms_asg me_bl (mg_nm (n := 5) sc__law_far.nd))
    (ms_one (ms_for (x := B2__law_far) (mi_seq (MF.me (mf_call C__law_steps hr (ma_cons (me_var (i := 0)) ma_nil)))) (mg_tup (mgs_cons (mg_nm (n := 6) sc__law_far.nd) (mgs_cons (mg_nm (n := 7) sc__law_far.nd) mgs_nil))) (ms_one (ms_if (PW.pt (mw_and (c_in hr (me_var (i := 6)) (me_var (i := 4))).2 (mw_and1 (c_in hr (me_var (i := 7)) (me_var (i := 3))).2))) (ms_cons (ms_asg (me_call C__law_sum hr (ma_cons (me_ix hr (me_var (i := 4)) (me_var (i := 6))) (ma_cons (me_ix hr (me_var (i := 1)) (me_tup (ma_cons (me_min2 m_min (ma_cons (me_var (i := 6)) (ma_cons (me_var (i := 7)) ma_nil))) (ma_cons (me_max2 m_max (ma_cons (me_var (i := 6)) (ma_cons (me_var (i := 7)) ma_nil))) ma_nil)))) ma_nil))) (mg_nm (n := 8) sc__law_far.nd))
    (ms_one (ms_if (PW.pt (mw_or (c_notin hr (me_var (i := 7)) (me_var (i := 4))).2 (mw_or1 (mt_val (me_call C__law_before hr (ma_cons (me_var (i := 8)) (ma_cons (me_ix hr (me_var (i := 4)) (me_var (i := 7))) ma_nil))))))) (ms_cons (ms_put hr (me_var (i := 4)) (me_var (i := 7)) (me_var (i := 8)))
    (ms_one (ms_asg me_bl (mg_nm (n := 5) sc__law_far.nd)))) ms_nil))) ms_nil))))))
    (ms_one (ms_ret (me_var (i := 4)))))))
theorem ok__law_row_shaped {f : Addr} {fd : FuncData} (F : L2.Fun K "_law_row_shaped" "_law_row_shaped" s__law_row_shaped f fd) (hg : mg "_law_row_shaped" = some (.ref f)) (C__law_is_length : Cal P w K mg base "_law_is_length" 1 (spM K 1 g__law_is_length) 2) (m_len : mg "len" = none) (m_isinstance : mg "isinstance" = none) (m_tuple : mg "tuple" = none) (m_bool : mg "bool" = none) (m_int : mg "int" = none) : Cal P w K mg base "_law_row_shaped" 1 (spM K 1 g__law_row_shaped) 3 :=
  def_ok (b := b__law_row_shaped) F hg sc__law_row_shaped (fun _ _ _ _ _ _ us hl => match us, hl with | [_], _ => rfl) fun cdv A outer s H E hr =>
    (ms_cons (ms_if (PW.pt (mw_or (mt_not (mt_val (me_isi (tn := "tuple") m_isinstance (me_var (i := 0)) m_tuple (by decide +kernel) (by decide +kernel)))) (mw_or (c_neA hr (me_len m_len (ma_cons (me_var (i := 0)) ma_nil)) me_int).2 (mw_or1 (mt_not (mt_val (me_call C__law_is_length hr (ma_cons (me_ix hr (me_var (i := 0)) me_int) ma_nil)))))))) (ms_one (ms_ret me_bl)) ms_nil)
    (ms_one (ms_ret (me_and (me_isi (tn := "int") m_isinstance (me_ix hr (me_var (i := 0)) me_int) m_int (by decide +kernel) (by decide +kernel)) (me_one (me_not (me_isi (tn := "bool") m_isinstance (me_ix hr (me_var (i := 0)) me_int) m_bool (by decide +kernel) (by decide +kernel))))))))
theorem ok__law_row_fits {f : Addr} {fd : FuncData} (F : L2.Fun K "_law_row_fits" "_law_row_fits" s__law_row_fits f fd) (hg : mg "_law_row_fits" = some (.ref f)) (C__law_sum : Cal P w K mg base "_law_sum" 2 (spM K 2 g__law_sum) 2) (m_isinstance : mg "isinstance" = none) (m_bool : mg "bool" = none) (m_int : mg "int" = none) (m_max : mg "max" = none) (m_min : mg "min" = none) : Cal P w K mg base "_law_row_fits" 4 (spM K 4 g__law_row_fits) 3 :=
  def_ok (b := b__law_row_fits) F hg sc__law_row_fits (fun _ _ _ _ _ _ us hl => match us, hl with | [_, _, _, _], _ => rfl) fun cdv A outer s H E hr =>
    (ms_cons (ms_asg (me_ix hr (me_var (i := 2)) (me_var (i := 3))) (mg_tup (mgs_cons (mg_nm (n := 4) sc__law_row_fits.nd) (mgs_cons (mg_nm (n := 5) sc__law_row_fits.nd) (mgs_cons (mg_nm (n := 6) sc__law_row_fits.nd) mgs_nil)))))
    (ms_cons (ms_if (PW.pt (mw_or (mt_not (mt_val (me_isi (tn := "int") m_isinstance (me_var (i := 6)) m_int (by decide +kernel) (by decide +kernel)))) (mw_or (mt_val (me_isi (tn := "bool") m_isinstance (me_var (i := 6)) m_bool (by decide +kernel) (by decide +kernel))) (mw_or (c_notin hr (me_var (i := 6)) (me_ix hr (me_var (i := 0)) (me_var (i := 3)))).2 (mw_or1 (c_isN (me_ix hr (me_var (i := 2)) (me_var (i := 6))) me_non).2))))) (ms_one (ms_ret me_bl)) ms_nil)
    (ms_cons (ms_asg (me_call C__law_sum hr (ma_cons (me_ix hr (me_ix hr (me_var (i := 2)) (me_var (i := 6))) me_int) (ma_cons (me_ix hr (me_var (i := 1)) (me_tup (ma_cons (me_min2 m_min (ma_cons (me_var (i := 6)) (ma_cons (me_var (i := 3)) ma_nil))) (ma_cons (me_max2 m_max (ma_cons (me_var (i := 6)) (ma_cons (me_var (i := 3)) ma_nil))) ma_nil)))) ma_nil))) (mg_nm (n := 7) sc__law_row_fits.nd))
    (ms_one (ms_ret (me_and (c_eqA hr (me_var (i := 4)) (me_var (i := 7))).1 (me_one (c_eqA hr (me_var (i := 5)) (me_add (me_ix hr (me_ix hr (me_var (i := 2)) (me_var (i := 6))) me_int) me_int)).1)))))))
theorem ok__law_leads {f : Addr} {fd : FuncData} (F : L2.Fun K "_law_leads" "_law_leads" s__law_leads f fd) (hg : mg "_law_leads" = some (.ref f)) (C_way_to : CalX (fun i => .ref (cA i)) P w K mg base "way_to" 2 (toldX Ew.g_way_to) 1) (C__law_sum : Cal P w K mg base "_law_sum" 2 (spM K 2 g__law_sum) 2) (m_len : mg "len" = none) (m_isinstance : mg "isinstance" = none) (m_tuple : mg "tuple" = none) (m_range : mg "range" = none) (m_bool : mg "bool" = none) (m_int : mg "int" = none) (m_max : mg "max" = none) (m_min : mg "min" = none) : Cal P w K mg base "_law_leads" 5 (spM K 5 g__law_leads) 3 :=
  def_ok (b := b__law_leads) F hg sc__law_leads (fun _ _ _ _ _ _ us hl => match us, hl with | [_, _, _, _, _], _ => rfl) fun cdv A outer s H E hr =>
    (ms_cons (ms_asg (me_callX C_way_to hr (ma_cons (me_var (i := 4)) (ma_cons (me_var (i := 3)) ma_nil))) (mg_nm (n := 5) sc__law_leads.nd))
    (ms_cons (ms_if (PW.pt (mw_or (mt_not (mt_val (me_isi (tn := "tuple") m_isinstance (me_var (i := 5)) m_tuple (by decide +kernel) (by decide +kernel)))) (mw_or (c_eqA hr (me_len m_len (ma_cons (me_var (i := 5)) ma_nil)) me_int).2 (mw_or (c_neA hr (me_ix hr (me_var (i := 5)) me_int) (me_var (i := 2))).2 (mw_or1 (c_neA hr (me_ix hr (me_var (i := 5)) (me_neg me_int)) (me_var (i := 3))).2))))) (ms_one (ms_ret me_bl)) ms_nil)
    (ms_cons (ms_asg (me_tup (ma_cons me_int (ma_cons me_int ma_nil))) (mg_nm (n := 6) sc__law_leads.nd))
    (ms_cons (ms_for (x := B1__law_leads) (mi_range2 m_range me_int (me_len m_len (ma_cons (me_var (i := 5)) ma_nil))) (mg_nm (n := 7) sc__law_leads.nd) (ms_cons (ms_par sc__law_leads.nd (me_ix hr (me_var (i := 5)) (me_sub (me_var (i := 7)) me_int)) (me_ix hr (me_var (i := 5)) (me_var (i := 7))))
    (ms_cons (ms_if (PW.pt (mw_or (mt_not (mt_val (me_isi (tn := "int") m_isinstance (me_var (i := 9)) m_int (by decide +kernel) (by decide +kernel)))) (mw_or (mt_val (me_isi (tn := "bool") m_isinstance (me_var (i := 9)) m_bool (by decide +kernel) (by decide +kernel))) (mw_or1 (c_notin hr (me_var (i := 9)) (me_ix hr (me_var (i := 0)) (me_var (i := 8)))).2)))) (ms_one (ms_ret me_bl)) ms_nil)
    (ms_one (ms_asg (me_call C__law_sum hr (ma_cons (me_var (i := 6)) (ma_cons (me_ix hr (me_var (i := 1)) (me_tup (ma_cons (me_min2 m_min (ma_cons (me_var (i := 8)) (ma_cons (me_var (i := 9)) ma_nil))) (ma_cons (me_max2 m_max (ma_cons (me_var (i := 8)) (ma_cons (me_var (i := 9)) ma_nil))) ma_nil)))) ma_nil))) (mg_nm (n := 6) sc__law_leads.nd))))))
    (ms_one (ms_ret (me_and (c_eqA hr (me_var (i := 6)) (me_ix hr (me_ix hr (me_var (i := 4)) (me_var (i := 3))) me_int)).1 (me_one (c_eqA hr (me_len m_len (ma_cons (me_var (i := 5)) ma_nil)) (me_add (me_ix hr (me_ix hr (me_var (i := 4)) (me_var (i := 3))) me_int) me_int)).1))))))))
theorem ok_reach_from {f : Addr} {fd : FuncData} (F : L2.Fun K "reach_from" "reach_from" s_reach_from f fd) (hg : mg "reach_from" = some (.ref f)) (C_tie_length : Cal P w K mg base "tie_length" 3 (spM K 3 g_tie_length) 1) (C_added : Cal P w K mg base "added" 2 (spM K 2 g_added) 3) (C_is_below : Cal P w K mg base "is_below" 2 (spM K 2 g_is_below) 1) : Cal P w K mg base "reach_from" 4 (spM K 4 g_reach_from) 4 :=
  def_ok (b := b_reach_from) F hg sc_reach_from (fun _ _ _ _ _ _ us hl => match us, hl with | [_, _, _, _], _ => rfl) fun cdv A outer s H E hr =>
    (ms_cons (ms_asg (me_ix hr (me_var (i := 2)) (me_var (i := 3))) (mg_tup (mgs_cons (mg_nm (n := 4) sc_reach_from.nd) (mgs_cons (mg_nm (n := 5) sc_reach_from.nd) (mgs_cons (mg_nm (n := 6) sc_reach_from.nd) mgs_nil)))))
    (ms_one (ms_for (x := B1_reach_from) (mi_seq (me_ix hr (me_var (i := 0)) (me_var (i := 3)))) (mg_nm (n := 7) sc_reach_from.nd) (ms_cons (ms_asg (me_call C_added hr (ma_cons (me_var (i := 4)) (ma_cons (me_call C_tie_length hr (ma_cons (me_var (i := 1)) (ma_cons (me_var (i := 3)) (ma_cons (me_var (i := 7)) ma_nil)))) ma_nil))) (mg_nm (n := 8) sc_reach_from.nd))
    (ms_one (ms_if (PW.pt (mw_or (c_isN (me_ix hr (me_var (i := 2)) (me_var (i := 7))) me_non).2 (mw_or1 (mt_val (me_call C_is_below hr (ma_cons (me_var (i := 8)) (ma_cons (me_ix hr (me_ix hr (me_var (i := 2)) (me_var (i := 7))) me_int) ma_nil))))))) (ms_one (ms_put hr (me_var (i := 2)) (me_var (i := 7)) (me_tup (ma_cons (me_var (i := 8)) (ma_cons (me_add (me_var (i := 5)) me_int) (ma_cons (me_var (i := 3)) ma_nil)))))) ms_nil))))))
theorem ok__law_flat {f : Addr} {fd : FuncData} (F : L2.Fun K "_law_flat" "_law_flat" s__law_flat f fd) (hg : mg "_law_flat" = some (.ref f)) (C__law_next : Cal P w K mg base "_law_next" 1 (spM K 1 g__law_next) 1) (C__law_names : Cal P w K mg base "_law_names" 2 (spM K 2 g__law_names) 2) (C__law_full : Cal P w K mg base "_law_full" 2 (spF K 2 (toldF Ew.g__law_full)) 3) (C__law_thinned : Cal P w K mg base "_law_thinned" 3 (spF K 3 (toldF Ew.g__law_thinned)) 2) (C__law_begun : Cal P w K mg base "_law_begun" 2 (spF K 2 (toldF Ew.g__law_begun)) 2) (m_len : mg "len" = none) : Cal P w K mg base "_law_flat" 2 (spM K 2 g__law_flat) 4 :=
  def_ok (b := b__law_flat) F hg sc__law_flat (fun _ _ _ _ _ _ us hl => match us, hl with | [_, _], _ => rfl) fun cdv A outer s H E hr =>
    (ms_cons (ms_asg (me_call C__law_next hr (ma_cons (me_var (i := 0)) ma_nil)) (mg_nm (n := 2) sc__law_flat.nd))
    (ms_cons (ms_asg (me_call C__law_names hr (ma_cons (me_var (i := 0)) (ma_cons (me_mod (me_var (i := 2)) (me_add (me_var (i := 1)) me_int)) ma_nil))) (mg_nm (n := 3) sc__law_flat.nd))
    (ms_cons (ms_asg (me_len m_len (ma_cons (me_var (i := 3)) ma_nil)) (mg_nm (n := 4) sc__law_flat.nd))
    (ms_cons (ms_if (c_eqA hr (me_mod (me_div (me_var (i := 2)) me_int) me_int) me_int).2 (ms_one (ms_asg (me_mod (me_div (me_var (i := 2)) me_int) (me_add (me_len m_len (ma_cons (me_var (i := 3)) ma_nil)) me_int)) (mg_nm (n := 4) sc__law_flat.nd))) ms_nil)
    (ms_cons (ms_asg (me_box mf_dnewK) (mg_nm (n := 5) sc__law_flat.nd))
    (ms_cons (ms_for (x := B1__law_flat) (mi_seq (MF.me (mf_lst (ma_cons (MF.me (mf_slL (me_var (i := 3)) mo_none (mo_some (me_var (i := 4))))) (ma_cons (MF.me (mf_slL (me_var (i := 3)) (mo_some (me_var (i := 4))) mo_none)) ma_nil))))) (mg_nm (n := 6) sc__law_flat.nd) (ms_one (ms_if (c_lt (me_len m_len (ma_cons (me_var (i := 6)) ma_nil)) me_int).2 (ms_one (ms_for (x := B2__law_flat) (mi_seq (me_var (i := 6))) (mg_nm (n := 7) sc__law_flat.nd) (ms_one (ms_put hr (me_var (i := 5)) (me_var (i := 7)) (MF.me (mf_lst ma_nil)))))) (ms_cons (ms_asg (MF.me (mf_call C__law_full hr (ma_cons (me_var (i := 0)) (ma_cons (me_var (i := 6)) ma_nil)))) (mg_nm (n := 8) sc__law_flat.nd))
    (ms_one (ms_expr (me_update (me_var (i := 5)) (MF.me (mf_call C__law_thinned hr (ma_cons (me_var (i := 0)) (ma_cons (me_var (i := 8)) (ma_cons (me_ix hr (MF.me (mf_lst (ma_cons me_int (ma_cons me_int (ma_cons me_int (ma_cons me_int (ma_cons me_int (ma_cons me_int (ma_cons me_int (ma_cons me_int ma_nil)))))))))) (me_mod (me_div (me_var (i := 2)) me_int) me_int)) ma_nil))))))))))))
    (ms_one (ms_ret (MF.me (mf_call C__law_begun hr (ma_cons (me_var (i := 0)) (ma_cons (me_var (i := 5)) ma_nil))))))))))))
theorem ok__law_is_way_paper {f : Addr} {fd : FuncData} (F : L2.Fun K "_law_is_way_paper" "_law_is_way_paper" s__law_is_way_paper f fd) (hg : mg "_law_is_way_paper" = some (.ref f)) (C__law_row_shaped : Cal P w K mg base "_law_row_shaped" 1 (spM K 1 g__law_row_shaped) 3) (C__law_all : Cal P w K mg base "_law_all" 1 (spM K 1 (toldV Ew.g__law_all)) 1) (C__law_far : Cal P w K mg base "_law_far" 4 (spF K 4 (toldF Ew.g__law_far)) 3) (C__law_row_fits : Cal P w K mg base "_law_row_fits" 4 (spM K 4 g__law_row_fits) 3) (m_len : mg "len" = none) (m_isinstance : mg "isinstance" = none) (m_dict : mg "dict" = none) (m_bool : mg "bool" = none) (m_int : mg "int" = none) : Cal P w K mg base "_law_is_way_paper" 4 (spM K 4 g__law_is_way_paper) 4 :=
  def_ok (b := b__law_is_way_paper) F hg sc__law_is_way_paper (fun _ _ _ _ _ _ us hl => match us, hl with | [_, _, _, _], _ => rfl) fun cdv A outer s H E hr =>
    (ms_cons (ms_if (PW.pt (mw_or (mt_not (mt_val (me_isi (tn := "dict") m_isinstance (me_var (i := 3)) m_dict (by decide +kernel) (by decide +kernel)))) (mw_or1 (c_neA hr (me_len m_len (ma_cons (me_var (i := 3)) ma_nil)) (me_len m_len (ma_cons (me_var (i := 0)) ma_nil))).2))) (ms_one (ms_ret me_bl)) ms_nil)
    (ms_cons (ms_forK (n := 3) (x := B1__law_is_way_paper) rfl (mg_nm (n := 4) sc__law_is_way_paper.nd) (ms_cons (ms_if (PW.pt (mw_or (mt_not (mt_val (me_isi (tn := "int") m_isinstance (me_var (i := 4)) m_int (by decide +kernel) (by decide +kernel)))) (mw_or (mt_val (me_isi (tn := "bool") m_isinstance (me_var (i := 4)) m_bool (by decide +kernel) (by decide +kernel))) (mw_or1 (c_notin hr (me_var (i := 4)) (me_var (i := 0))).2)))) (ms_one (ms_ret me_bl)) ms_nil)
    (ms_one (ms_if (PW.pt (mw_and (c_notN (me_ix hr (me_var (i := 3)) (me_var (i := 4))) me_non).2 (mw_and1 (mt_not (mt_val (me_call C__law_row_shaped hr (ma_cons (me_ix hr (me_var (i := 3)) (me_var (i := 4))) ma_nil))))))) (ms_one (ms_ret me_bl)) ms_nil))))
    (ms_cons (ms_if (c_neA hr (me_ix hr (me_var (i := 3)) (me_var (i := 2))) (me_tup (ma_cons (me_tup (ma_cons me_int (ma_cons me_int ma_nil))) (ma_cons me_int (ma_cons me_non ma_nil))))).2 (ms_one (ms_ret me_bl)) ms_nil)
    (ms_cons (ms_asg (MF.me (mf_call C__law_far hr (ma_cons (me_var (i := 0)) (ma_cons (me_var (i := 1)) (ma_cons (me_var (i := 2)) (ma_cons (me_call C__law_all hr (ma_cons (me_var (i := 0)) ma_nil)) ma_nil)))))) (mg_nm (n := 5) sc__law_is_way_paper.nd))
    (ms_cons (ms_forK (n := 0) (x := B2__law_is_way_paper) rfl (mg_nm (n := 4) sc__law_is_way_paper.nd) (ms_cons (ms_if (PW.pt (mw_and (c_notin hr (me_var (i := 4)) (me_var (i := 5))).2 (mw_and1 (c_notN (me_ix hr (me_var (i := 3)) (me_var (i := 4))) me_non).2))) (ms_one (ms_ret me_bl)) ms_nil)
    (ms_cons (ms_if (PW.pt (mw_and (c_in hr (me_var (i := 4)) (me_var (i := 5))).2 (mw_and1 (PW.pt (mw_or (c_isN (me_ix hr (me_var (i := 3)) (me_var (i := 4))) me_non).2 (mw_or1 (c_neA hr (me_ix hr (me_ix hr (me_var (i := 3)) (me_var (i := 4))) me_int) (me_ix hr (me_var (i := 5)) (me_var (i := 4)))).2)))))) (ms_one (ms_ret me_bl)) ms_nil)
    (ms_one (ms_if (PW.pt (mw_and (c_in hr (me_var (i := 4)) (me_var (i := 5))).2 (mw_and (c_neA hr (me_var (i := 4)) (me_var (i := 2))).2 (mw_and1 (mt_not (mt_val (me_call C__law_row_fits hr (ma_cons (me_var (i := 0)) (ma_cons (me_var (i := 1)) (ma_cons (me_var (i := 3)) (ma_cons (me_var (i := 4)) ma_nil))))))))))) (ms_one (ms_ret me_bl)) ms_nil)))))
    (ms_one (ms_ret me_bl)))))))
theorem ok_ways {f : Addr} {fd : FuncData} (F : L2.Fun K "ways" "ways" s_ways f fd) (hg : mg "ways" = some (.ref f)) (C_nearest : Cal P w K mg base "nearest" 2 (spM K 2 g_nearest) 2) (C_reach_from : Cal P w K mg base "reach_from" 4 (spM K 4 g_reach_from) 4) (m_sorted : mg "sorted" = none) (k_NOUGHT : TupG K mg "NOUGHT" [0, 1]) : Cal P w K mg base "ways" 3 (spM K 3 g_ways) 5 :=
  def_ok (b := b_ways) F hg sc_ways (fun _ _ _ _ _ _ us hl => match us, hl with | [_, _, _], _ => rfl) fun cdv A outer s H E hr =>
    (ms_cons (ms_asg (me_box mf_dnewK) (mg_nm (n := 3) sc_ways.nd))
    (ms_cons (ms_forK (n := 0) (x := B1_ways) rfl (mg_nm (n := 4) sc_ways.nd) (ms_one (ms_put hr (me_var (i := 3)) (me_var (i := 4)) me_non)))
    (ms_cons (ms_put hr (me_var (i := 3)) (me_var (i := 2)) (me_tup (ma_cons (me_gtup (is := [0, 1]) k_NOUGHT) (ma_cons me_int (ma_cons me_non ma_nil)))))
    (ms_cons (ms_asg (me_box (mf_sortKeys m_sorted (me_var (i := 0)))) (mg_nm (n := 5) sc_ways.nd))
    (ms_cons (ms_asg (me_call C_nearest hr (ma_cons (me_var (i := 3)) (ma_cons (me_var (i := 5)) ma_nil))) (mg_nm (n := 6) sc_ways.nd))
    (ms_cons (ms_while (ta := W2_ways) (x := B2_ways) (c_notN (me_var (i := 6)) me_non).2 (ms_cons (ms_asg (me_popAt (me_var (i := 5)) (me_var (i := 6))) (mg_nm (n := 4) sc_ways.nd))
    (ms_cons (ms_expr (me_call C_reach_from hr (ma_cons (me_var (i := 0)) (ma_cons (me_var (i := 1)) (ma_cons (me_var (i := 3)) (ma_cons (me_var (i := 4)) ma_nil))))))
    (ms_one (ms_asg (me_call C_nearest hr (ma_cons (me_var (i := 3)) (ma_cons (me_var (i := 5)) ma_nil))) (mg_nm (n := 6) sc_ways.nd))))))
    (ms_one (ms_ret (me_var (i := 3))))))))))
theorem ok__law_good {f : Addr} {fd : FuncData} (F : L2.Fun K "_law_good" "_law_good" s__law_good f fd) (hg : mg "_law_good" = some (.ref f)) (C_ways : Cal P w K mg base "ways" 3 (spF K 3 (toldF Ew.g_ways)) 5) (C__law_is_way_paper : Cal P w K mg base "_law_is_way_paper" 4 (spM K 4 g__law_is_way_paper) 4) (C__law_refused : Cal P w K mg base "_law_refused" 2 (spM K 2 g__law_refused) 2) (C__law_leads : Cal P w K mg base "_law_leads" 5 (spM K 5 (toldV Ew.g__law_leads)) 3) (m_dict : mg "dict" = none) : Cal P w K mg base "_law_good" 3 (spM K 3 g__law_good) 6 :=
  def_ok (b := b__law_good) F hg sc__law_good (fun _ _ _ _ _ _ us hl => match us, hl with | [_, _, _], _ => rfl) fun cdv A outer s H E hr =>
    (ms_cons (ms_asg (me_box (mf_call C_ways hr (ma_cons (me_var (i := 0)) (ma_cons (me_var (i := 1)) (ma_cons (me_var (i := 2)) ma_nil))))) (mg_nm (n := 3) sc__law_good.nd))
    (ms_cons (ms_if (mt_not (mt_val (me_call C__law_is_way_paper hr (ma_cons (me_var (i := 0)) (ma_cons (me_var (i := 1)) (ma_cons (me_var (i := 2)) (ma_cons (me_var (i := 3)) ma_nil))))))) (ms_one (ms_ret me_bl)) ms_nil)
    (ms_cons (ms_asg (MF.me (mf_dictD m_dict (ma_cons (me_var (i := 3)) ma_nil))) (mg_nm (n := 4) sc__law_good.nd))
    (ms_cons (ms_forK (n := 0) (x := B1__law_good) rfl (mg_nm (n := 5) sc__law_good.nd) (ms_one (ms_if (c_isN (me_ix hr (me_var (i := 3)) (me_var (i := 5))) me_non).2 (ms_one (ms_if (mt_not (mt_val (me_call C__law_refused hr (ma_cons (me_var (i := 3)) (ma_cons (me_var (i := 5)) ma_nil))))) (ms_one (ms_ret me_bl)) ms_nil)) (ms_one (ms_if (mt_not (mt_val (me_call C__law_leads hr (ma_cons (me_var (i := 0)) (ma_cons (me_var (i := 1)) (ma_cons (me_var (i := 2)) (ma_cons (me_var (i := 5)) (ma_cons (me_var (i := 3)) ma_nil)))))))) (ms_one (ms_ret me_bl)) ms_nil)))))
    (ms_cons (ms_if (c_neA hr (me_var (i := 3)) (me_var (i := 4))).2 (ms_one (ms_ret me_bl)) ms_nil)
    (ms_cons (ms_put hr (me_var (i := 3)) (me_var (i := 2)) me_non)
    (ms_cons (ms_put hr (me_var (i := 3)) (me_neg me_int) (me_tup (ma_cons me_int (ma_cons me_int ma_nil))))
    (ms_one (ms_ret (c_eqA hr (MF.me (mf_call C_ways hr (ma_cons (me_var (i := 0)) (ma_cons (me_var (i := 1)) (ma_cons (me_var (i := 2)) ma_nil))))) (me_var (i := 4))).1)))))))))
theorem ok_law {f : Addr} {fd : FuncData} (F : L2.Fun K "law" "law" s_law f fd) (C__law_draws : Cal P w K mg base "_law_draws" 1 (spM K 1 g__law_draws) 2) (C__law_next : Cal P w K mg base "_law_next" 1 (spM K 1 g__law_next) 1) (C__law_flat : Cal P w K mg base "_law_flat" 2 (spM K 2 (toldV Ew.g__law_flat)) 4) (C__law_lengths : Cal P w K mg base "_law_lengths" 2 (spF K 2 (toldF Ew.g__law_lengths)) 3) (C__law_twin : Cal P w K mg base "_law_twin" 1 (spF K 1 (toldF Ew.g__law_twin)) 1) (C__law_good : Cal P w K mg base "_law_good" 3 (spM K 3 g__law_good) 6) (m_range : mg "range" = none) (m_min : mg "min" = none) (m_len : mg "len" = none) (m_dict : mg "dict" = none) (m_sorted : mg "sorted" = none) : FnOk P w K mg base CX0 7 f fd ["_law_script"] (spM K 1 g_law) :=
  def_fn (b := b_law) F sc_law fun cdv A outer s H E hr =>
    (ms_cons (ms_asg (me_call C__law_draws hr (ma_cons (me_var (i := 0)) ma_nil)) (mg_nm (n := 1) sc_law.nd))
    (ms_cons (ms_for (x := B1_law) (mi_range1 m_range (me_min2 m_min (ma_cons (me_add me_int (me_div (me_len m_len (ma_cons (me_var (i := 1)) ma_nil)) me_int)) (ma_cons me_int ma_nil)))) (mg_nm (n := 2) sc_law.nd) (ms_cons (ms_asg (me_call C__law_flat hr (ma_cons (me_var (i := 1)) (ma_cons (me_ix hr (MF.me (mf_lst (ma_cons me_int (ma_cons me_int ma_nil)))) (me_mod (me_call C__law_next hr (ma_cons (me_var (i := 1)) ma_nil)) me_int)) ma_nil))) (mg_nm (n := 3) sc_law.nd))
    (ms_cons (ms_if (c_eqA hr (me_var (i := 3)) (MF.me mf_dnewK)).2 (ms_one (ms_asg (MF.me (mf_disp (mp_cons (me_mod (me_call C__law_next hr (ma_cons (me_var (i := 1)) ma_nil)) me_int) (me_tupR ma_nil) mp_nil))) (mg_nm (n := 3) sc_law.nd))) ms_nil)
    (ms_cons (ms_asg (MF.me (mf_call C__law_lengths hr (ma_cons (me_var (i := 1)) (ma_cons (me_var (i := 3)) ma_nil)))) (mg_nm (n := 4) sc_law.nd))
    (ms_cons (ms_par sc_law.nd (MF.me (mf_call C__law_twin hr (ma_cons (me_var (i := 3)) ma_nil))) (MF.me (mf_dictT hr m_dict (ma_cons (me_var (i := 4)) ma_nil))))
    (ms_cons (ms_asg (MF.me (mf_sortKeys m_sorted (me_var (i := 3)))) (mg_nm (n := 7) sc_law.nd))
    (ms_cons (ms_for (x := B2_law) (mi_range1 m_range me_int) (mg_nm (n := 8) sc_law.nd) (ms_one (ms_if (mt_not (mt_val (me_call C__law_good hr (ma_cons (me_var (i := 3)) (ma_cons (me_var (i := 4)) (ma_cons (me_ix hr (me_var (i := 7)) (me_mod (me_call C__law_next hr (ma_cons (me_var (i := 1)) ma_nil)) (me_len m_len (ma_cons (me_var (i := 7)) ma_nil)))) ma_nil)))))) (ms_one (ms_ret me_bl)) ms_nil)))
    (ms_one (ms_if (PW.pt (mw_or (c_neA hr (me_var (i := 3)) (me_var (i := 5))).2 (mw_or1 (c_neDT hr (me_var (i := 4)) (me_var (i := 6))).2))) (ms_one (ms_ret me_bl)) ms_nil)))))))))
    (ms_one (ms_ret me_bl))))
end
theorem all_mk {l : PySem.W.OpenLaw} {w : World} {K : PySem.W.Frag} {h : Heap} {mg : Str → Option Value} {fa : Addr} (X : K.In h) (G : h.Ns mainGlobals mg) (hfa : mg "law" = some (.ref fa)) {f_common : Addr} {fd_common : FuncData} {f_is_below : Addr} {fd_is_below : FuncData} {f_tie_length : Addr} {fd_tie_length : FuncData} {f_way_to : Addr} {fd_way_to : FuncData} {f__law_mixed : Addr} {fd__law_mixed : FuncData} {f__law_next : Addr} {fd__law_next : FuncData} {f__law_behind : Addr} {fd__law_behind : FuncData} {f__law_steps : Addr} {fd__law_steps : FuncData} {f__law_put_behind : Addr} {fd__law_put_behind : FuncData} {f__law_twin : Addr} {fd__law_twin : FuncData} {f__law_low : Addr} {fd__law_low : FuncData} {f__law_before : Addr} {fd__law_before : FuncData} {f__law_all : Addr} {fd__law_all : FuncData} {f_fraction : Addr} {fd_fraction : FuncData} {f_nearest : Addr} {fd_nearest : FuncData} {f__law_draws : Addr} {fd__law_draws : FuncData} {f__law_names : Addr} {fd__law_names : FuncData} {f__law_stand_in : Addr} {fd__law_stand_in : FuncData} {f__law_thinned : Addr} {fd__law_thinned : FuncData} {f__law_begun : Addr} {fd__law_begun : FuncData} {f__law_ties : Addr} {fd__law_ties : FuncData} {f__law_sum : Addr} {fd__law_sum : FuncData} {f__law_is_length : Addr} {fd__law_is_length : FuncData} {f__law_refused : Addr} {fd__law_refused : FuncData} {f_added : Addr} {fd_added : FuncData} {f__law_full : Addr} {fd__law_full : FuncData} {f__law_lengths : Addr} {fd__law_lengths : FuncData} {f__law_far : Addr} {fd__law_far : FuncData} {f__law_row_shaped : Addr} {fd__law_row_shaped : FuncData} {f__law_row_fits : Addr} {fd__law_row_fits : FuncData} {f__law_leads : Addr} {fd__law_leads : FuncData} {f_reach_from : Addr} {fd_reach_from : FuncData} {f__law_flat : Addr} {fd__law_flat : FuncData} {f__law_is_way_paper : Addr} {fd__law_is_way_paper : FuncData} {f_ways : Addr} {fd_ways : FuncData} {f__law_good : Addr} {fd__law_good : FuncData} {f_law : Addr} {fd_law : FuncData}  {A_NoWay : Addr} {A_WallsError : Addr}
    (d_common : DefAt K "common" s_common f_common fd_common) (d_is_below : DefAt K "is_below" s_is_below f_is_below fd_is_below) (d_tie_length : DefAt K "tie_length" s_tie_length f_tie_length fd_tie_length) (d_way_to : DefAt K "way_to" s_way_to f_way_to fd_way_to) (d__law_mixed : DefAt K "_law_mixed" s__law_mixed f__law_mixed fd__law_mixed) (d__law_next : DefAt K "_law_next" s__law_next f__law_next fd__law_next) (d__law_behind : DefAt K "_law_behind" s__law_behind f__law_behind fd__law_behind) (d__law_steps : DefAt K "_law_steps" s__law_steps f__law_steps fd__law_steps) (d__law_put_behind : DefAt K "_law_put_behind" s__law_put_behind f__law_put_behind fd__law_put_behind) (d__law_twin : DefAt K "_law_twin" s__law_twin f__law_twin fd__law_twin) (d__law_low : DefAt K "_law_low" s__law_low f__law_low fd__law_low) (d__law_before : DefAt K "_law_before" s__law_before f__law_before fd__law_before) (d__law_all : DefAt K "_law_all" s__law_all f__law_all fd__law_all) (d_fraction : DefAt K "fraction" s_fraction f_fraction fd_fraction) (d_nearest : DefAt K "nearest" s_nearest f_nearest fd_nearest) (d__law_draws : DefAt K "_law_draws" s__law_draws f__law_draws fd__law_draws) (d__law_names : DefAt K "_law_names" s__law_names f__law_names fd__law_names) (d__law_stand_in : DefAt K "_law_stand_in" s__law_stand_in f__law_stand_in fd__law_stand_in) (d__law_thinned : DefAt K "_law_thinned" s__law_thinned f__law_thinned fd__law_thinned) (d__law_begun : DefAt K "_law_begun" s__law_begun f__law_begun fd__law_begun) (d__law_ties : DefAt K "_law_ties" s__law_ties f__law_ties fd__law_ties) (d__law_sum : DefAt K "_law_sum" s__law_sum f__law_sum fd__law_sum) (d__law_is_length : DefAt K "_law_is_length" s__law_is_length f__law_is_length fd__law_is_length) (d__law_refused : DefAt K "_law_refused" s__law_refused f__law_refused fd__law_refused) (d_added : DefAt K "added" s_added f_added fd_added) (d__law_full : DefAt K "_law_full" s__law_full f__law_full fd__law_full) (d__law_lengths : DefAt K "_law_lengths" s__law_lengths f__law_lengths fd__law_lengths) (d__law_far : DefAt K "_law_far" s__law_far f__law_far fd__law_far) (d__law_row_shaped : DefAt K "_law_row_shaped" s__law_row_shaped f__law_row_shaped fd__law_row_shaped) (d__law_row_fits : DefAt K "_law_row_fits" s__law_row_fits f__law_row_fits fd__law_row_fits) (d__law_leads : DefAt K "_law_leads" s__law_leads f__law_leads fd__law_leads) (d_reach_from : DefAt K "reach_from" s_reach_from f_reach_from fd_reach_from) (d__law_flat : DefAt K "_law_flat" s__law_flat f__law_flat fd__law_flat) (d__law_is_way_paper : DefAt K "_law_is_way_paper" s__law_is_way_paper f__law_is_way_paper fd__law_is_way_paper) (d_ways : DefAt K "ways" s_ways f_ways fd_ways) (d__law_good : DefAt K "_law_good" s__law_good f__law_good fd__law_good) (d_law : DefAt K "law" s_law f_law fd_law)
    (z_max : PySem.W.nsIn K mainGlobals "max" = some none) (z_min : PySem.W.nsIn K mainGlobals "min" = some none) (z_tuple : PySem.W.nsIn K mainGlobals "tuple" = some none) (z_reversed : PySem.W.nsIn K mainGlobals "reversed" = some none) (z_len : PySem.W.nsIn K mainGlobals "len" = some none) (z_sorted : PySem.W.nsIn K mainGlobals "sorted" = some none) (z_abs : PySem.W.nsIn K mainGlobals "abs" = some none) (z_dict : PySem.W.nsIn K mainGlobals "dict" = some none) (z_range : PySem.W.nsIn K mainGlobals "range" = some none) (z_list : PySem.W.nsIn K mainGlobals "list" = some none) (z_isinstance : PySem.W.nsIn K mainGlobals "isinstance" = some none) (z_bool : PySem.W.nsIn K mainGlobals "bool" = some none) (z_int : PySem.W.nsIn K mainGlobals "int" = some none) (z_ValueError : PySem.W.nsIn K mainGlobals "ValueError" = some none)  (w_NOUGHT : TupY K "NOUGHT" [0, 1]) (n_NoWay : PySem.W.nsIn K mainGlobals "NoWay" = some (some (.ref A_NoWay))) (xq_NoWay : PySem.W.excIn K A_NoWay [.type "ValueError", .type "Exception", .type "BaseException", .type "object"] "ValueError.__new__" = true) (xk_NoWay : PySem.W.keepIn K (.ref A_NoWay) = true) (xb_NoWay : PySem.W.subIn K (.ref A_NoWay) (.type "BaseException") = some true) (xt_NoWay : PySem.W.typeIn K (.ref A_NoWay) = some (.type "type")) (xi_NoWay : PySem.W.isClsIn K A_NoWay = true) (n_WallsError : PySem.W.nsIn K mainGlobals "WallsError" = some (some (.ref A_WallsError))) (xq_WallsError : PySem.W.excIn K A_WallsError [.type "ValueError", .type "Exception", .type "BaseException", .type "object"] "ValueError.__new__" = true) (xk_WallsError : PySem.W.keepIn K (.ref A_WallsError) = true) (xb_WallsError : PySem.W.subIn K (.ref A_WallsError) (.type "BaseException") = some true) (xt_WallsError : PySem.W.typeIn K (.ref A_WallsError) = some (.type "type")) (xi_WallsError : PySem.W.isClsIn K A_WallsError = true) (xs_NoWay_NoWay : PySem.W.subIn K (.ref A_NoWay) (.ref A_NoWay) = some true) (xs_NoWay_WallsError : PySem.W.subIn K (.ref A_NoWay) (.ref A_WallsError) = some true) (xs_WallsError_NoWay : PySem.W.subIn K (.ref A_WallsError) (.ref A_NoWay) = some false) (xs_WallsError_WallsError : PySem.W.subIn K (.ref A_WallsError) (.ref A_WallsError) = some true) (xe_NoWay : ExcC K A_NoWay) (xo_NoWay_ValueError : PySem.W.kitOne K (.ref A_NoWay) (.type "ValueError") = some true) (xo_NoWay_NoWay : PySem.W.kitOne K (.ref A_NoWay) (.ref A_NoWay) = some true) (xe_WallsError : ExcC K A_WallsError) (xo_WallsError_ValueError : PySem.W.kitOne K (.ref A_WallsError) (.type "ValueError") = some true) (xo_WallsError_NoWay : PySem.W.kitOne K (.ref A_WallsError) (.ref A_NoWay) = some false) :
    ∃ fd : FuncData, (∀ (s : Shared) (v : Value), BindsTo s fd ⟨[v], []⟩ [("_law_script", v)]) ∧ ∀ base : Heap, K.In base → base.Ns mainGlobals mg → FnOk l.prog w K mg base CX0 7 fa fd ["_law_script"] (spLaw K) := by
  letI : Tabs := ⟨fun _ => 0, fun _ => ""⟩
  have g_common : mg "common" = some (.ref f_common) := PySem.W.mg_of X G d_common.1
  have g_is_below : mg "is_below" = some (.ref f_is_below) := PySem.W.mg_of X G d_is_below.1
  have g_tie_length : mg "tie_length" = some (.ref f_tie_length) := PySem.W.mg_of X G d_tie_length.1
  have g_way_to : mg "way_to" = some (.ref f_way_to) := PySem.W.mg_of X G d_way_to.1
  have g__law_mixed : mg "_law_mixed" = some (.ref f__law_mixed) := PySem.W.mg_of X G d__law_mixed.1
  have g__law_next : mg "_law_next" = some (.ref f__law_next) := PySem.W.mg_of X G d__law_next.1
  have g__law_behind : mg "_law_behind" = some (.ref f__law_behind) := PySem.W.mg_of X G d__law_behind.1
  have g__law_steps : mg "_law_steps" = some (.ref f__law_steps) := PySem.W.mg_of X G d__law_steps.1
  have g__law_put_behind : mg "_law_put_behind" = some (.ref f__law_put_behind) := PySem.W.mg_of X G d__law_put_behind.1
  have g__law_twin : mg "_law_twin" = some (.ref f__law_twin) := PySem.W.mg_of X G d__law_twin.1
  have g__law_low : mg "_law_low" = some (.ref f__law_low) := PySem.W.mg_of X G d__law_low.1
  have g__law_before : mg "_law_before" = some (.ref f__law_before) := PySem.W.mg_of X G d__law_before.1
  have g__law_all : mg "_law_all" = some (.ref f__law_all) := PySem.W.mg_of X G d__law_all.1
  have g_fraction : mg "fraction" = some (.ref f_fraction) := PySem.W.mg_of X G d_fraction.1
  have g_nearest : mg "nearest" = some (.ref f_nearest) := PySem.W.mg_of X G d_nearest.1
  have g__law_draws : mg "_law_draws" = some (.ref f__law_draws) := PySem.W.mg_of X G d__law_draws.1
  have g__law_names : mg "_law_names" = some (.ref f__law_names) := PySem.W.mg_of X G d__law_names.1
  have g__law_stand_in : mg "_law_stand_in" = some (.ref f__law_stand_in) := PySem.W.mg_of X G d__law_stand_in.1
  have g__law_thinned : mg "_law_thinned" = some (.ref f__law_thinned) := PySem.W.mg_of X G d__law_thinned.1
  have g__law_begun : mg "_law_begun" = some (.ref f__law_begun) := PySem.W.mg_of X G d__law_begun.1
  have g__law_ties : mg "_law_ties" = some (.ref f__law_ties) := PySem.W.mg_of X G d__law_ties.1
  have g__law_sum : mg "_law_sum" = some (.ref f__law_sum) := PySem.W.mg_of X G d__law_sum.1
  have g__law_is_length : mg "_law_is_length" = some (.ref f__law_is_length) := PySem.W.mg_of X G d__law_is_length.1
  have g__law_refused : mg "_law_refused" = some (.ref f__law_refused) := PySem.W.mg_of X G d__law_refused.1
  have g_added : mg "added" = some (.ref f_added) := PySem.W.mg_of X G d_added.1
  have g__law_full : mg "_law_full" = some (.ref f__law_full) := PySem.W.mg_of X G d__law_full.1
  have g__law_lengths : mg "_law_lengths" = some (.ref f__law_lengths) := PySem.W.mg_of X G d__law_lengths.1
  have g__law_far : mg "_law_far" = some (.ref f__law_far) := PySem.W.mg_of X G d__law_far.1
  have g__law_row_shaped : mg "_law_row_shaped" = some (.ref f__law_row_shaped) := PySem.W.mg_of X G d__law_row_shaped.1
  have g__law_row_fits : mg "_law_row_fits" = some (.ref f__law_row_fits) := PySem.W.mg_of X G d__law_row_fits.1
  have g__law_leads : mg "_law_leads" = some (.ref f__law_leads) := PySem.W.mg_of X G d__law_leads.1
  have g_reach_from : mg "reach_from" = some (.ref f_reach_from) := PySem.W.mg_of X G d_reach_from.1
  have g__law_flat : mg "_law_flat" = some (.ref f__law_flat) := PySem.W.mg_of X G d__law_flat.1
  have g__law_is_way_paper : mg "_law_is_way_paper" = some (.ref f__law_is_way_paper) := PySem.W.mg_of X G d__law_is_way_paper.1
  have g_ways : mg "ways" = some (.ref f_ways) := PySem.W.mg_of X G d_ways.1
  have g__law_good : mg "_law_good" = some (.ref f__law_good) := PySem.W.mg_of X G d__law_good.1
  have g_law : mg "law" = some (.ref f_law) := PySem.W.mg_of X G d_law.1
  have m_max : mg "max" = none := PySem.W.mg_none_of X G z_max
  have m_min : mg "min" = none := PySem.W.mg_none_of X G z_min
  have m_tuple : mg "tuple" = none := PySem.W.mg_none_of X G z_tuple
  have m_reversed : mg "reversed" = none := PySem.W.mg_none_of X G z_reversed
  have m_len : mg "len" = none := PySem.W.mg_none_of X G z_len
  have m_sorted : mg "sorted" = none := PySem.W.mg_none_of X G z_sorted
  have m_abs : mg "abs" = none := PySem.W.mg_none_of X G z_abs
  have m_dict : mg "dict" = none := PySem.W.mg_none_of X G z_dict
  have m_range : mg "range" = none := PySem.W.mg_none_of X G z_range
  have m_list : mg "list" = none := PySem.W.mg_none_of X G z_list
  have m_isinstance : mg "isinstance" = none := PySem.W.mg_none_of X G z_isinstance
  have m_bool : mg "bool" = none := PySem.W.mg_none_of X G z_bool
  have m_int : mg "int" = none := PySem.W.mg_none_of X G z_int
  have m_ValueError : mg "ValueError" = none := PySem.W.mg_none_of X G z_ValueError
  have XC_NoWay : XcOk K mg "NoWay" ((fun i => [A_NoWay, A_WallsError].getD i 0) 0) := ⟨PySem.W.mg_of X G n_NoWay, xq_NoWay, xk_NoWay, xb_NoWay, xt_NoWay⟩
  have XC_WallsError : XcOk K mg "WallsError" ((fun i => [A_NoWay, A_WallsError].getD i 0) 1) := ⟨PySem.W.mg_of X G n_WallsError, xq_WallsError, xk_WallsError, xb_WallsError, xt_WallsError⟩
  have XM : ∀ c d, c < 2 → d < 2 → PySem.W.exmOne K (.ref ((fun i => [A_NoWay, A_WallsError].getD i 0) c)) (.ref ((fun i => [A_NoWay, A_WallsError].getD i 0) d)) = some (subC c d) := by
    intro c d hc hd
    have hc2 : c = 0 ∨ c = 1 := by omega
    have hd2 : d = 0 ∨ d = 1 := by omega
    rcases hc2 with rfl | rfl <;> rcases hd2 with rfl | rfl
    · exact exm_of xb_NoWay xi_NoWay xt_NoWay xs_NoWay_NoWay
    · exact exm_of xb_WallsError xi_WallsError xt_WallsError xs_NoWay_WallsError
    · exact exm_of xb_NoWay xi_NoWay xt_NoWay xs_WallsError_NoWay
    · exact exm_of xb_WallsError xi_WallsError xt_WallsError xs_WallsError_WallsError
  have XI_ValueError : XisOk (fun i => .ref ((fun i => [A_NoWay, A_WallsError].getD i 0) i)) K 2 (.type "ValueError") (fun _ => true) := ⟨fun c hc => by
    have hc2 : c = 0 ∨ c = 1 := by omega
    rcases hc2 with rfl | rfl
    · exact ⟨_, rfl, xe_NoWay, xo_NoWay_ValueError⟩
    · exact ⟨_, rfl, xe_WallsError, xo_WallsError_ValueError⟩⟩
  have XI_NoWay : XisOk (fun i => .ref ((fun i => [A_NoWay, A_WallsError].getD i 0) i)) K 2 (.ref ((fun i => [A_NoWay, A_WallsError].getD i 0) 0)) (fun c => subC c 0) := ⟨fun c hc => by
    have hc2 : c = 0 ∨ c = 1 := by omega
    rcases hc2 with rfl | rfl
    · exact ⟨_, rfl, xe_NoWay, xo_NoWay_NoWay⟩
    · exact ⟨_, rfl, xe_WallsError, xo_WallsError_NoWay⟩⟩
  have e := hfa.symm.trans g_law
  cases e
  refine ⟨fd_law, fun s v => ?_, fun base _ _ => ?_⟩
  · obtain ⟨oc, od, kV, doc, pm, an, cdv, ct, osl, efd, _, _⟩ := d_law.2.ex
    subst efd
    exact .of_eq rfl
  · have C_common := ok_common (P := l.prog) (w := w) (base := base) d_common.2 g_common 
    have C_is_below := ok_is_below (P := l.prog) (w := w) (base := base) d_is_below.2 g_is_below 
    have C_tie_length := ok_tie_length (P := l.prog) (w := w) (base := base) d_tie_length.2 g_tie_length m_max m_min
    have C_way_to := (ok_way_to (P := l.prog) (w := w) (base := base) (cA := fun i => [A_NoWay, A_WallsError].getD i 0) d_way_to.2 g_way_to m_tuple m_reversed XC_NoWay).told
    have C__law_mixed := ok__law_mixed (P := l.prog) (w := w) (base := base) d__law_mixed.2 g__law_mixed 
    have C__law_next := ok__law_next (P := l.prog) (w := w) (base := base) d__law_next.2 g__law_next 
    have C__law_behind := ok__law_behind (P := l.prog) (w := w) (base := base) d__law_behind.2 g__law_behind m_len
    have C__law_steps := (ok__law_steps (P := l.prog) (w := w) (base := base) d__law_steps.2 g__law_steps m_sorted).fresh (toldF_ok Ew.g__law_steps)
    have C__law_put_behind := ok__law_put_behind (P := l.prog) (w := w) (base := base) d__law_put_behind.2 g__law_put_behind 
    have C__law_twin := (ok__law_twin (P := l.prog) (w := w) (base := base) d__law_twin.2 g__law_twin ).fresh (toldF_ok Ew.g__law_twin)
    have C__law_low := ok__law_low (P := l.prog) (w := w) (base := base) d__law_low.2 g__law_low m_abs
    have C__law_before := ok__law_before (P := l.prog) (w := w) (base := base) d__law_before.2 g__law_before 
    have C__law_all := (ok__law_all (P := l.prog) (w := w) (base := base) d__law_all.2 g__law_all m_dict).told (toldV_ok Ew.g__law_all)
    have C_fraction := ok_fraction (P := l.prog) (w := w) (base := base) d_fraction.2 g_fraction C_common m_abs
    have C_nearest := ok_nearest (P := l.prog) (w := w) (base := base) d_nearest.2 g_nearest C_is_below m_range m_len
    have C__law_draws := ok__law_draws (P := l.prog) (w := w) (base := base) d__law_draws.2 g__law_draws C__law_mixed m_range m_min m_len m_abs
    have C__law_names := ok__law_names (P := l.prog) (w := w) (base := base) d__law_names.2 g__law_names C__law_next m_range
    have C__law_stand_in := ok__law_stand_in (P := l.prog) (w := w) (base := base) d__law_stand_in.2 g__law_stand_in C__law_put_behind
    have C__law_thinned := (ok__law_thinned (P := l.prog) (w := w) (base := base) d__law_thinned.2 g__law_thinned C__law_next C__law_mixed m_max m_min).fresh (toldF_ok Ew.g__law_thinned)
    have C__law_begun := (ok__law_begun (P := l.prog) (w := w) (base := base) d__law_begun.2 g__law_begun C__law_next C__law_mixed m_list m_max m_len m_tuple).fresh (toldF_ok Ew.g__law_begun)
    have C__law_ties := ok__law_ties (P := l.prog) (w := w) (base := base) d__law_ties.2 g__law_ties C__law_steps m_sorted
    have C__law_sum := ok__law_sum (P := l.prog) (w := w) (base := base) d__law_sum.2 g__law_sum C__law_low
    have C__law_is_length := ok__law_is_length (P := l.prog) (w := w) (base := base) d__law_is_length.2 g__law_is_length C__law_low m_len m_isinstance m_tuple m_bool m_int
    have C__law_refused := ok__law_refused (P := l.prog) (w := w) (base := base) (cA := fun i => [A_NoWay, A_WallsError].getD i 0) d__law_refused.2 g__law_refused C_way_to m_isinstance m_ValueError XC_WallsError XC_NoWay XI_ValueError XI_NoWay XM
    have C_added := ok_added (P := l.prog) (w := w) (base := base) d_added.2 g_added C_fraction
    have C__law_full := (ok__law_full (P := l.prog) (w := w) (base := base) d__law_full.2 g__law_full C__law_next C__law_behind C__law_stand_in m_len).fresh (toldF_ok Ew.g__law_full)
    have C__law_lengths := (ok__law_lengths (P := l.prog) (w := w) (base := base) d__law_lengths.2 g__law_lengths C__law_next C__law_ties C__law_mixed C__law_low).fresh (toldF_ok Ew.g__law_lengths)
    have C__law_far := (ok__law_far (P := l.prog) (w := w) (base := base) d__law_far.2 g__law_far C__law_steps C__law_sum C__law_before m_max m_min).fresh (toldF_ok Ew.g__law_far)
    have C__law_row_shaped := ok__law_row_shaped (P := l.prog) (w := w) (base := base) d__law_row_shaped.2 g__law_row_shaped C__law_is_length m_len m_isinstance m_tuple m_bool m_int
    have C__law_row_fits := ok__law_row_fits (P := l.prog) (w := w) (base := base) d__law_row_fits.2 g__law_row_fits C__law_sum m_isinstance m_bool m_int m_max m_min
    have C__law_leads := (ok__law_leads (P := l.prog) (w := w) (base := base) (cA := fun i => [A_NoWay, A_WallsError].getD i 0) d__law_leads.2 g__law_leads C_way_to C__law_sum m_len m_isinstance m_tuple m_range m_bool m_int m_max m_min).told (toldV_ok Ew.g__law_leads)
    have C_reach_from := ok_reach_from (P := l.prog) (w := w) (base := base) d_reach_from.2 g_reach_from C_tie_length C_added C_is_below
    have C__law_flat := (ok__law_flat (P := l.prog) (w := w) (base := base) d__law_flat.2 g__law_flat C__law_next C__law_names C__law_full C__law_thinned C__law_begun m_len).told (toldV_ok Ew.g__law_flat)
    have C__law_is_way_paper := ok__law_is_way_paper (P := l.prog) (w := w) (base := base) d__law_is_way_paper.2 g__law_is_way_paper C__law_row_shaped C__law_all C__law_far C__law_row_fits m_len m_isinstance m_dict m_bool m_int
    have C_ways := (ok_ways (P := l.prog) (w := w) (base := base) d_ways.2 g_ways C_nearest C_reach_from m_sorted (TupY.g X G w_NOUGHT)).fresh (toldF_ok Ew.g_ways)
    have C__law_good := ok__law_good (P := l.prog) (w := w) (base := base) d__law_good.2 g__law_good C_ways C__law_is_way_paper C__law_refused C__law_leads m_dict
    exact law_fn (ok_law d_law.2 C__law_draws C__law_next C__law_flat C__law_lengths C__law_twin C__law_good m_range m_min m_len m_dict m_sorted) fun ns hl _ => law_true ns hl
end Ew
end
open PySem PySem.W PyProof.Rows in
set_option maxRecDepth 100000 in
set_option maxHeartbeats 0 in
theorem PySem.Challenge.cw_evenwalls_k54_whole_ways_from_a_point_holds : PySem.Challenge.rw_evenwalls_k54_whole_ways_from_a_point.Holds := by
  w_on; o_law; k_head; (case hw => w_witness2)
  k_fill
  refine L2.walk_ofB (l := PySem.Challenge.rw_evenwalls_k54_whole_ways_from_a_point) (n := 63) (k := 7) (x := "_law_script") (CX := fun _ => L2.CX0) (sp := fun w => Ew.spLaw _) rfl (by decide) rfl ⟨rfl, by decide, by decide⟩ (fun w h Y => PySem.W.kIn_of Y) ?F (fun _ _ a ns hl hb hO hS => ⟨a, ns, rfl, hS, hl, hb, hO, fun _ => rfl⟩) (fun _ _ _ _ _ h => h)
  case F =>
    intro w mg fa h KX G hmg
    refine' Ew.all_mk KX G hmg ?d_common ?d_is_below ?d_tie_length ?d_way_to ?d__law_mixed ?d__law_next ?d__law_behind ?d__law_steps ?d__law_put_behind ?d__law_twin ?d__law_low ?d__law_before ?d__law_all ?d_fraction ?d_nearest ?d__law_draws ?d__law_names ?d__law_stand_in ?d__law_thinned ?d__law_begun ?d__law_ties ?d__law_sum ?d__law_is_length ?d__law_refused ?d_added ?d__law_full ?d__law_lengths ?d__law_far ?d__law_row_shaped ?d__law_row_fits ?d__law_leads ?d_reach_from ?d__law_flat ?d__law_is_way_paper ?d_ways ?d__law_good ?d_law ?z_max ?z_min ?z_tuple ?z_reversed ?z_len ?z_sorted ?z_abs ?z_dict ?z_range ?z_list ?z_isinstance ?z_bool ?z_int ?z_ValueError ?w_NOUGHT ?n_NoWay ?xq_NoWay ?xk_NoWay ?xb_NoWay ?xt_NoWay ?xi_NoWay ?n_WallsError ?xq_WallsError ?xk_WallsError ?xb_WallsError ?xt_WallsError ?xi_WallsError ?xs_NoWay_NoWay ?xs_NoWay_WallsError ?xs_WallsError_NoWay ?xs_WallsError_WallsError ?xe_NoWay ?xo_NoWay_ValueError ?xo_NoWay_NoWay ?xe_WallsError ?xo_WallsError_ValueError ?xo_WallsError_NoWay
    (case d_common => exact Ew.defAt_mk (by k_is) (by k_is) (by k_is) (by k_is))
    (case d_is_below => exact Ew.defAt_mk (by k_is) (by k_is) (by k_is) (by k_is))
    (case d_tie_length => exact Ew.defAt_mk (by k_is) (by k_is) (by k_is) (by k_is))
    (case d_way_to => exact Ew.defAt_mk (by k_is) (by k_is) (by k_is) (by k_is))
    (case d__law_mixed => exact Ew.defAt_mk (by k_is) (by k_is) (by k_is) (by k_is))
    (case d__law_next => exact Ew.defAt_mk (by k_is) (by k_is) (by k_is) (by k_is))
    (case d__law_behind => exact Ew.defAt_mk (by k_is) (by k_is) (by k_is) (by k_is))
    (case d__law_steps => exact Ew.defAt_mk (by k_is) (by k_is) (by k_is) (by k_is))
    (case d__law_put_behind => exact Ew.defAt_mk (by k_is) (by k_is) (by k_is) (by k_is))
    (case d__law_twin => exact Ew.defAt_mk (by k_is) (by k_is) (by k_is) (by k_is))
    (case d__law_low => exact Ew.defAt_mk (by k_is) (by k_is) (by k_is) (by k_is))
    (case d__law_before => exact Ew.defAt_mk (by k_is) (by k_is) (by k_is) (by k_is))
    (case d__law_all => exact Ew.defAt_mk (by k_is) (by k_is) (by k_is) (by k_is))
    (case d_fraction => exact Ew.defAt_mk (by k_is) (by k_is) (by k_is) (by k_is))
    (case d_nearest => exact Ew.defAt_mk (by k_is) (by k_is) (by k_is) (by k_is))
    (case d__law_draws => exact Ew.defAt_mk (by k_is) (by k_is) (by k_is) (by k_is))
    (case d__law_names => exact Ew.defAt_mk (by k_is) (by k_is) (by k_is) (by k_is))
    (case d__law_stand_in => exact Ew.defAt_mk (by k_is) (by k_is) (by k_is) (by k_is))
    (case d__law_thinned => exact Ew.defAt_mk (by k_is) (by k_is) (by k_is) (by k_is))
    (case d__law_begun => exact Ew.defAt_mk (by k_is) (by k_is) (by k_is) (by k_is))
    (case d__law_ties => exact Ew.defAt_mk (by k_is) (by k_is) (by k_is) (by k_is))
    (case d__law_sum => exact Ew.defAt_mk (by k_is) (by k_is) (by k_is) (by k_is))
    (case d__law_is_length => exact Ew.defAt_mk (by k_is) (by k_is) (by k_is) (by k_is))
    (case d__law_refused => exact Ew.defAt_mk (by k_is) (by k_is) (by k_is) (by k_is))
    (case d_added => exact Ew.defAt_mk (by k_is) (by k_is) (by k_is) (by k_is))
    (case d__law_full => exact Ew.defAt_mk (by k_is) (by k_is) (by k_is) (by k_is))
    (case d__law_lengths => exact Ew.defAt_mk (by k_is) (by k_is) (by k_is) (by k_is))
    (case d__law_far => exact Ew.defAt_mk (by k_is) (by k_is) (by k_is) (by k_is))
    (case d__law_row_shaped => exact Ew.defAt_mk (by k_is) (by k_is) (by k_is) (by k_is))
    (case d__law_row_fits => exact Ew.defAt_mk (by k_is) (by k_is) (by k_is) (by k_is))
    (case d__law_leads => exact Ew.defAt_mk (by k_is) (by k_is) (by k_is) (by k_is))
    (case d_reach_from => exact Ew.defAt_mk (by k_is) (by k_is) (by k_is) (by k_is))
    (case d__law_flat => exact Ew.defAt_mk (by k_is) (by k_is) (by k_is) (by k_is))
    (case d__law_is_way_paper => exact Ew.defAt_mk (by k_is) (by k_is) (by k_is) (by k_is))
    (case d_ways => exact Ew.defAt_mk (by k_is) (by k_is) (by k_is) (by k_is))
    (case d__law_good => exact Ew.defAt_mk (by k_is) (by k_is) (by k_is) (by k_is))
    (case d_law => exact Ew.defAt_mk (by k_is) (by k_is) (by k_is) (by k_is))
    (case z_max => k_is)
    (case z_min => k_is)
    (case z_tuple => k_is)
    (case z_reversed => k_is)
    (case z_len => k_is)
    (case z_sorted => k_is)
    (case z_abs => k_is)
    (case z_dict => k_is)
    (case z_range => k_is)
    (case z_list => k_is)
    (case z_isinstance => k_is)
    (case z_bool => k_is)
    (case z_int => k_is)
    (case z_ValueError => k_is)
    (case w_NOUGHT => exact Ew.tupY_mk2 (by k_is) (by k_is))
    (case n_NoWay => first | k_exc | k_is | rfl)
    (case xq_NoWay => first | k_exc | k_is | rfl)
    (case xk_NoWay => first | k_exc | k_is | rfl)
    (case xb_NoWay => first | k_exc | k_is | rfl)
    (case xt_NoWay => first | k_exc | k_is | rfl)
    (case xi_NoWay => first | k_exc | k_is | rfl)
    (case n_WallsError => first | k_exc | k_is | rfl)
    (case xq_WallsError => first | k_exc | k_is | rfl)
    (case xk_WallsError => first | k_exc | k_is | rfl)
    (case xb_WallsError => first | k_exc | k_is | rfl)
    (case xt_WallsError => first | k_exc | k_is | rfl)
    (case xi_WallsError => first | k_exc | k_is | rfl)
    (case xs_NoWay_NoWay => first | k_exc | k_is | rfl)
    (case xs_NoWay_WallsError => first | k_exc | k_is | rfl)
    (case xs_WallsError_NoWay => first | k_exc | k_is | rfl)
    (case xs_WallsError_WallsError => first | k_exc | k_is | rfl)
    (case xe_NoWay => exact ⟨by first | k_is | rfl, by first | k_is | rfl, by first | k_is | rfl, by first | k_is | rfl, by first | k_is | rfl, by first | k_is | rfl, by first | k_is | rfl, by first | k_is | rfl⟩)
    (case xo_NoWay_ValueError => first | k_is | rfl)
    (case xo_NoWay_NoWay => first | k_is | rfl)
    (case xe_WallsError => exact ⟨by first | k_is | rfl, by first | k_is | rfl, by first | k_is | rfl, by first | k_is | rfl, by first | k_is | rfl, by first | k_is | rfl, by first | k_is | rfl, by first | k_is | rfl⟩)
    (case xo_WallsError_ValueError => first | k_is | rfl)
    (case xo_WallsError_NoWay => first | k_is | rfl)
