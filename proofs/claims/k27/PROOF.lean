import PyProof.Rows.All
import Wide.All
import OpenK.AllK
import Wide.FinOn
import PySem.Str
import HandS.ForMost
import HandS.Wide
import HandS.IsInst
import HandS.Style
import HandS.SortInts
import HandS.Conv
import HandS.EndBits
import HandS.Lambda
import HandS.Nested
import HandS.EndTab
import HandS.TupLen
import HandS.NoneIn
import HandS.TupAny
import HandS.Iter
import HandS.Strs
import HandS.More
import KE.KEqDict
import KE.OsSort
import KE.KDictSum
import KE.KIndexOf
import HandS.SortRule
import KE.GoesMore
import KE.GoesEnum
import HandS.Rev
import HandS.RevTup
import HandS.SetFor
import HandS.Set
import KE.SortKeyHeap
import HandS.SortKw
import HandS.Deep
import HandS.Zip
import HandS.Finally
import KE.SortData
import HandS.DeepEq
import HandS.WideBits
import HandS.DictEq
import PyProof.EqKinds
import PySem.Challenge.RW_evenwalls_k27_rings_or_not
section
set_option linter.all false
/-! EwS: a small machine for the Python of this program: values, cells, expressions and statements as functions of slots and cells. -/
namespace Ew
open PySem (Str)
/-- a key of a dict -/
abbrev MK := Sum Int Str
/-- a value; lst, dK, dT are lists and dicts that are never written again; ref n is the cell n; scr the script; row a tuple that is known to have no dict -/
inductive MV where
  | non | bl (b : Bool) | int (i : Int) | str (x : Str)
  | tup (xs : List MV) | lst (xs : List MV) | scr (xs : List Int)
  | dK (kvs : List (MK × MV)) | dT (kvs : List (List MK × MV))
  | ref (n : Nat)
  | row (xs : List MV)
/-- a cell: what may be written -/
inductive MC where
  | lst (xs : List MV) | dK (kvs : List (MK × MV)) | dT (kvs : List (List MK × MV))
  | lkK (kvs : List (MK × MV)) | lkT (kvs : List (List MK × MV))
  | tab (n : Nat)
abbrev MH := List MC
abbrev SM := List (Option MV)
abbrev XE := SM → MH → Option (MV × MH)
abbrev XT := SM → MH → Option (Bool × MH)
abbrev XA := SM → MH → Option (List MV × MH)
inductive Fl where
  | nx | rt (v : MV) | bk | ct
abbrev XS := SM → MH → Option (Fl × SM × MH)
abbrev XG := MV → SM → MH → Option (SM × MH)
abbrev Fn := List MV → MH → Option (MV × MH)

/-! ### expressions -/
def xVar (i : Nat) : XE := fun s h => match s[i]? with
  | some (some v) => some (v, h)
  | _ => none
def xC (v : MV) : XE := fun _ h => some (v, h)
/-- an operation of two values that changes nothing -/
def xOp (f : MH → MV → MV → Option MV) (a b : XE) : XE := fun s h => match a s h with
  | none => none
  | some (x, h1) => match b s h1 with
    | none => none
    | some (y, h2) => match f h2 x y with
      | none => none
      | some v => some (v, h2)
def xUn (f : MH → MV → Option MV) (a : XE) : XE := fun s h => match a s h with
  | none => none
  | some (x, h1) => match f h1 x with
    | none => none
    | some v => some (v, h1)
def xNil : XA := fun _ h => some ([], h)
def xCons (a : XE) (r : XA) : XA := fun s h => match a s h with
  | none => none
  | some (x, h1) => match r s h1 with
    | none => none
    | some (xs, h2) => some (x :: xs, h2)
/-- an operation of arguments that changes nothing -/
def xArgs (f : MH → List MV → Option MV) (a : XA) : XE := fun s h => match a s h with
  | none => none
  | some (xs, h1) => match f h1 xs with
    | none => none
    | some v => some (v, h1)
/-- a call -/
def xCall (g : Fn) (a : XA) : XE := fun s h => match a s h with
  | none => none
  | some (xs, h1) => g xs h1
def xTup (a : XA) : XE := fun s h => match a s h with
  | none => none
  | some (xs, h1) => some (.tup xs, h1)
/-- a tuple that is displayed, a row -/
def xTupR (a : XA) : XE := fun s h => match a s h with
  | none => none
  | some (xs, h1) => some (.row xs, h1)
def xLst (a : XA) : XE := fun s h => match a s h with
  | none => none
  | some (xs, h1) => some (.lst xs, h1)
/-- a fresh list or dict made a cell -/
def boxM (v : MV) (h : MH) : Option (MV × MH) := match v with
  | .lst xs => some (.ref h.length, h ++ [.lst xs])
  | .dK kvs => some (.ref h.length, h ++ [.dK kvs])
  | .dT kvs => some (.ref h.length, h ++ [.dT kvs])
  | _ => none
def xBox (e : XE) : XE := fun s h => match e s h with
  | none => none
  | some (v, h1) => boxM v h1
def xIf (c : XT) (a b : XE) : XE := fun s h => match c s h with
  | none => none
  | some (true, h1) => a s h1
  | some (false, h1) => b s h1
/-- and, or, not as values -/
def xAnd (a b : XE) : XE := fun s h => match a s h with
  | some (.bl true, h1) => b s h1
  | some (.bl false, h1) => some (.bl false, h1)
  | _ => none
def xOr (a b : XE) : XE := fun s h => match a s h with
  | some (.bl true, h1) => some (.bl true, h1)
  | some (.bl false, h1) => b s h1
  | _ => none
def xNot (a : XE) : XE := fun s h => match a s h with
  | some (.bl k, h1) => some (.bl (!k), h1)
  | _ => none
/-! ### tests -/
def xB (a : XE) : XT := fun s h => match a s h with
  | some (.bl k, h1) => some (k, h1)
  | _ => none
def xAndT (a b : XT) : XT := fun s h => match a s h with
  | none => none
  | some (true, h1) => b s h1
  | some (false, h1) => some (false, h1)
def xOrT (a b : XT) : XT := fun s h => match a s h with
  | none => none
  | some (true, h1) => some (true, h1)
  | some (false, h1) => b s h1
def xNotT (a : XT) : XT := fun s h => match a s h with
  | none => none
  | some (k, h1) => some (!k, h1)

/-! ### what is read of values -/
/-- a list: a value, the script, a cell -/
def listOf (h : MH) : MV → Option (List MV)
  | .lst xs => some xs
  | .scr xs => some (xs.map .int)
  | .ref n => match h[n]? with
    | some (.lst xs) => some xs
    | _ => none
  | _ => none
/-- a list or a tuple -/
def seqOf (h : MH) : MV → Option (List MV)
  | .tup xs => some xs
  | .row xs => some xs
  | v => listOf h v
def dictK (h : MH) : MV → Option (List (MK × MV))
  | .dK kvs => some kvs
  | .ref n => match h[n]? with
    | some (.dK kvs) => some kvs
    | some (.lkK kvs) => some kvs
    | _ => none
  | _ => none
def dictT (h : MH) : MV → Option (List (List MK × MV))
  | .dT kvs => some kvs
  | .ref n => match h[n]? with
    | some (.dT kvs) => some kvs
    | some (.lkT kvs) => some kvs
    | _ => none
  | _ => none
def keyOf : MV → Option MK
  | .int i => some (.inl i)
  | .str x => some (.inr x)
  | _ => none
def keysOf : List MV → Option (List MK)
  | [] => some []
  | v :: r => match keyOf v, keysOf r with
    | some k, some ks => some (k :: ks)
    | _, _ => none
def keyV : MK → MV
  | .inl i => .int i
  | .inr x => .str x
def getK {κ : Type} [DecidableEq κ] (kvs : List (κ × MV)) (k : κ) : Option MV := (kvs.find? fun kv => decide (kv.1 = k)).map (·.2)
def putM {κ : Type} [DecidableEq κ] (kvs : List (κ × MV)) (k : κ) (v : MV) : List (κ × MV) :=
  if kvs.any (fun kv => decide (kv.1 = k)) then kvs.map (fun kv => if kv.1 = k then (kv.1, v) else kv) else kvs ++ [(k, v)]
/-- what a dict has at a key: none where it is no dict, no key -/
def lookM (h : MH) (d k : MV) : Option (Option MV) := match k with
  | .tup ks => match dictT h d, keysOf ks with
    | some kvs, some kk => some (getK kvs kk)
    | _, _ => none
  | k => match dictK h d, keyOf k with
    | some kvs, some kk => some (getK kvs kk)
    | _, _ => none

/-! ### numbers -/
def opAdd (_ : MH) : MV → MV → Option MV
  | .int i, .int j => some (.int (i + j))
  | _, _ => none
def opSub (_ : MH) : MV → MV → Option MV
  | .int i, .int j => some (.int (i - j))
  | _, _ => none
def opMul (_ : MH) : MV → MV → Option MV
  | .int i, .int j => if i.natAbs.log2 + j.natAbs.log2 < 1000000 then some (.int (i * j)) else none
  | _, _ => none
def opDiv (_ : MH) : MV → MV → Option MV
  | .int i, .int j => if 0 < j ∧ j.natAbs.log2 < 9000 then some (.int (i / j)) else none
  | _, _ => none
def opMod (_ : MH) : MV → MV → Option MV
  | .int i, .int j => if 0 < j then some (.int (i % j)) else none
  | _, _ => none
def opPow (_ : MH) : MV → MV → Option MV
  | .int i, .int j => if 0 ≤ j ∧ j ≤ 1000000 ∧ i.natAbs < 2 ^ 64 then some (.int (i ^ j.toNat)) else none
  | _, _ => none
def opNeg (_ : MH) : MV → Option MV
  | .int i => some (.int (-i))
  | _ => none
def opLt (_ : MH) : MV → MV → Option MV
  | .int i, .int j => some (.bl (decide (i < j)))
  | _, _ => none
def opLe (_ : MH) : MV → MV → Option MV
  | .int i, .int j => some (.bl (decide (i ≤ j)))
  | _, _ => none
def opGt (_ : MH) : MV → MV → Option MV
  | .int i, .int j => some (.bl (decide (j < i)))
  | _, _ => none
def opGe (_ : MH) : MV → MV → Option MV
  | .int i, .int j => some (.bl (decide (j ≤ i)))
  | _, _ => none
/-! ### equality of data -/
def strFine (x : Str) : Bool := x.cps.all (fun c => decide (c < 1114112)) && decide (x.cps.size ≤ 16777216)
mutual
/-- == of data -/
def eqD : MV → MV → Bool
  | .non, .non => true
  | .bl a, .bl b => a == b
  | .bl a, .int j => (if a then 1 else 0) == j
  | .int i, .bl b => i == (if b then 1 else 0)
  | .int a, .int b => a == b
  | .str a, .str b => a == b
  | .tup xs, .tup ys => eqDs xs ys
  | .row xs, .row ys => eqDs xs ys
  | .row xs, .tup ys => eqDs xs ys
  | .tup xs, .row ys => eqDs xs ys
  | .lst xs, .lst ys => eqDs xs ys
  | _, _ => false
def eqDs : List MV → List MV → Bool
  | [], [] => true
  | x :: xs, y :: ys => eqD x y && eqDs xs ys
  | _, _ => false
end
mutual
/-- data of some depth: None, truths, numbers, texts, tuples, lists -/
def isD : Nat → MV → Bool
  | _, .non => true
  | _, .bl _ => true
  | _, .int _ => true
  | _, .str x => strFine x
  | n + 1, .tup xs => isDs n xs
  | n + 1, .row xs => isDs n xs
  | n + 1, .lst xs => isDs n xs
  | _, _ => false
def isDs : Nat → List MV → Bool
  | _, [] => true
  | n, x :: xs => isD n x && isDs n xs
end
def eqM (x y : MV) : Option Bool := if isD 60 x && isD 60 y then some (eqD x y) else none
/-- a cell of data read as a value -/
def rdM (h : MH) : MV → MV
  | .ref n => match h[n]? with
    | some (.lst xs) => .lst xs
    | _ => .ref n
  | v => v
def opEq0 (h : MH) (x y : MV) : Option MV := (eqM (rdM h x) (rdM h y)).map .bl
def opNe0 (h : MH) (x y : MV) : Option MV := (eqM (rdM h x) (rdM h y)).map fun k => .bl (!k)
/-- == of dicts of data -/
def eqKs (xs ys : List (MK × MV)) : Bool := xs.length == ys.length && xs.all fun kv => match getK ys kv.1 with
  | some y => eqD kv.2 y
  | none => false
def dataKs (xs : List (MK × MV)) : Bool := xs.all fun kv => isD 50 kv.2
def opEq (h : MH) (x y : MV) : Option MV := match dictK h x, dictK h y with
  | some xs, some ys => if dataKs xs && dataKs ys then some (.bl (eqKs xs ys)) else none
  | _, _ => opEq0 h x y
def opNe (h : MH) (x y : MV) : Option MV := match dictK h x, dictK h y with
  | some xs, some ys => if dataKs xs && dataKs ys then some (.bl (!eqKs xs ys)) else none
  | _, _ => opNe0 h x y
def opIsNon (_ : MH) (x : MV) (y : MV) : Option MV := match y with
  | .non => some (.bl (match x with | .non => true | _ => false))
  | _ => none
def opNotNon (_ : MH) (x : MV) (y : MV) : Option MV := match y with
  | .non => some (.bl (match x with | .non => false | _ => true))
  | _ => none
/-! ### x in y -/
def flatM : MV → Bool
  | .non => true | .bl _ => true | .int _ => true | .str _ => true
  | _ => false
def feqM : MV → MV → Bool
  | .non, .non => true
  | .bl a, .bl b => a == b
  | .bl a, .int b => (if a then 1 else 0) == b
  | .int a, .bl b => a == (if b then 1 else 0)
  | .int a, .int b => a == b
  | .str a, .str b => a == b
  | _, _ => false
def inSeq (x : MV) (xs : List MV) : Option Bool := if flatM x && xs.all flatM then some (xs.any fun y => feqM y x) else none
def opIn (h : MH) (x d : MV) : Option MV := match seqOf h d with
  | some xs => (inSeq x xs).map .bl
  | none => (lookM h d x).map fun o => .bl o.isSome
def opNotIn (h : MH) (x d : MV) : Option MV := match seqOf h d with
  | some xs => (inSeq x xs).map fun k => .bl (!k)
  | none => (lookM h d x).map fun o => .bl (!o.isSome)
/-! ### items, slices -/
def ixM (n : Nat) (i : Int) : Option Nat := if 0 ≤ i then (if i < n then some i.toNat else none) else if -(n : Int) ≤ i then some (i + n).toNat else none
def atM (xs : List MV) (i : Int) : Option MV := (ixM xs.length i).bind fun j => xs[j]?
/-- o[i] -/
def opIx (h : MH) (d k : MV) : Option MV := match seqOf h d, k with
  | some xs, .int i => atM xs i
  | some _, _ => none
  | none, k => match lookM h d k with
    | some (some v) => some v
    | _ => none
def sIxM (n d : Nat) : Option Int → Nat
  | none => d
  | some v => if v < 0 then (v + (n : Int)).toNat else min v.toNat n
def cutM (xs : List MV) (lo hi : Option Int) : List MV := (xs.drop (sIxM xs.length 0 lo)).take (sIxM xs.length xs.length hi - sIxM xs.length 0 lo)
abbrev XO := SM → MH → Option (Option Int × MH)
def xNoPart : XO := fun _ h => some (none, h)
def xPart (e : XE) : XO := fun s h => match e s h with
  | some (.int i, h1) => some (some i, h1)
  | _ => none
/-- xs[lo:hi] of a list: a fresh list -/
def xSlL (e : XE) (lo hi : XO) : XE := fun s h => match e s h with
  | none => none
  | some (v, h1) => match lo s h1 with
    | none => none
    | some (l, h2) => match hi s h2 with
      | none => none
      | some (u, h3) => match listOf h3 v with
        | none => none
        | some xs => some (.lst (cutM xs l u), h3)
/-- t[lo:hi] of a tuple -/
def xSlT (e : XE) (lo hi : XO) : XE := fun s h => match e s h with
  | none => none
  | some (v, h1) => match lo s h1 with
    | none => none
    | some (l, h2) => match hi s h2 with
      | none => none
      | some (u, h3) => match v with
        | .tup xs => if sIxM xs.length 0 l = 0 ∧ sIxM xs.length xs.length u = xs.length then some (.tup xs, h3) else some (.row (cutM xs l u), h3)
        | .row xs => some (.row (cutM xs l u), h3)
        | _ => none
/-! ### built-ins -/
def szLine : Nat := 16777216
def fLen (h : MH) : List MV → Option MV
  | [v] => match seqOf h v with
    | some xs => some (.int xs.length)
    | none => match dictK h v with
      | some kvs => some (.int kvs.length)
      | none => match dictT h v with
        | some kvs => some (.int kvs.length)
        | none => none
  | _ => none
def fAbs (_ : MH) : List MV → Option MV
  | [.int i] => some (.int (if i < 0 then -i else i))
  | _ => none
def fMax2 (_ : MH) : List MV → Option MV
  | [.int i, .int j] => some (.int (if j > i then j else i))
  | _ => none
def fMin2 (_ : MH) : List MV → Option MV
  | [.int i, .int j] => some (.int (if j < i then j else i))
  | _ => none
/-- a value's type by its name -/
def tyN (h : MH) : MV → Option String
  | .non => some "NoneType"
  | .bl _ => some "bool"
  | .int _ => some "int"
  | .str _ => some "str"
  | .tup _ => some "tuple"
  | .row _ => some "tuple"
  | .lst _ => some "list"
  | .scr _ => some "list"
  | .dK _ => some "dict"
  | .dT _ => none
  | .ref n => match h[n]? with
    | some (.lst _) => some "list"
    | some (.dK _) => some "dict"
    | some (.dT _) => some "dict"
    | some (.lkK _) => some "dict"
    | _ => none
def subTy (a t : String) : Bool := a == t || (a == "bool" && t == "int")
def fIsi (t : String) (h : MH) : List MV → Option MV
  | [v] => match tyN h v with
    | some a => some (.bl (subTy a t))
    | none => none
  | _ => none
/-- list(x) of a list or tuple -/
def fList (h : MH) : List MV → Option MV
  | [v] => (seqOf h v).map .lst
  | _ => none
/-- tuple(x) of a list or tuple -/
def fTuple (h : MH) : List MV → Option MV
  | [.tup xs] => some (.tup xs)
  | [v] => (seqOf h v).map .row
  | _ => none
def boolsOf : List MV → Option (List Bool)
  | [] => some []
  | .bl k :: r => (boolsOf r).map (k :: ·)
  | _ => none
def intsOf : List MV → Option (List Int)
  | [] => some []
  | .int k :: r => (intsOf r).map (k :: ·)
  | _ => none
def fAll (h : MH) : List MV → Option MV
  | [v] => match listOf h v with
    | some xs => (boolsOf xs).map fun bs => .bl (bs.all id)
    | none => none
  | _ => none
/-! ### methods that write into a cell -/
def isLstC (h : MH) (n : Nat) : Bool := match h[n]? with
  | some (.lst _) => true
  | _ => false
def xAppend (o e : XE) : XE := fun s h => match o s h with
  | some (.ref n, h1) => if isLstC h1 n then match e s h1 with
    | some (v, h2) => match h2[n]? with
      | some (.lst xs) => if xs.length < szLine then some (.non, h2.set n (.lst (xs ++ [v]))) else none
      | _ => none
    | none => none
    else none
  | _ => none
def xExtend (o e : XE) : XE := fun s h => match o s h with
  | some (.ref n, h1) => if isLstC h1 n then match e s h1 with
    | some (.lst ys, h2) => match h2[n]? with
      | some (.lst xs) => if xs.length + ys.length ≤ szLine then some (.non, h2.set n (.lst (xs ++ ys))) else none
      | _ => none
    | _ => none
    else none
  | _ => none
/-- l.extend(t), a tuple -/
def xExtendT (o e : XE) : XE := fun s h => match o s h with
  | some (.ref n, h1) => if isLstC h1 n then match e s h1 with
    | some (.tup ys, h2) => match h2[n]? with
      | some (.lst xs) => if xs.length + ys.length ≤ szLine then some (.non, h2.set n (.lst (xs ++ ys))) else none
      | _ => none
    | _ => none
    else none
  | _ => none
def xPop (o : XE) : XE := fun s h => match o s h with
  | some (.ref n, h1) => match h1[n]? with
    | some (.lst xs) => match xs[xs.length - 1]? with
      | some y => some (y, h1.set n (.lst xs.dropLast))
      | none => none
    | _ => none
  | _ => none
def xPopAt (o i : XE) : XE := fun s h => match o s h with
  | some (.ref n, h1) => if isLstC h1 n then match i s h1 with
    | some (.int i, h2) => match h2[n]? with
      | some (.lst xs) => if -(2 ^ 62) ≤ i ∧ i < 2 ^ 62 then match ixM xs.length i with
        | some j => match xs[j]? with
          | some y => some (y, h2.set n (.lst (xs.eraseIdx j)))
          | none => none
        | none => none
        else none
      | _ => none
    | _ => none
    else none
  | _ => none

/-! ### statements -/
def sNext : XS := fun s h => some (.nx, s, h)
def sSeq (a b : XS) : XS := fun s h => match a s h with
  | some (.nx, s1, h1) => b s1 h1
  | r => r
def sExpr (e : XE) : XS := fun s h => match e s h with
  | none => none
  | some (_, h1) => some (.nx, s, h1)
def sRet (e : XE) : XS := fun s h => match e s h with
  | none => none
  | some (v, h1) => some (.rt v, s, h1)
def sRetN : XS := fun s h => some (.rt .non, s, h)
def sBk : XS := fun s h => some (.bk, s, h)
def sCt : XS := fun s h => some (.ct, s, h)
def sIf (c : XT) (a b : XS) : XS := fun s h => match c s h with
  | none => none
  | some (true, h1) => a s h1
  | some (false, h1) => b s h1
def sNever : XS := fun _ _ => none
def gNm (i : Nat) : XG := fun v s h => some (s.set i (some v), h)
abbrev XGs := List MV → SM → MH → Option (SM × MH)
def gsNil : XGs := fun vs s h => match vs with
  | [] => some (s, h)
  | _ => none
def gsCons (g : XG) (r : XGs) : XGs := fun vs s h => match vs with
  | v :: vs => match g v s h with
    | none => none
    | some (s1, h1) => r vs s1 h1
  | [] => none
def gTp (n : Nat) (g : XGs) : XG := fun v s h => match v with
  | .tup xs => if xs.length = n then g xs s h else none
  | .row xs => if xs.length = n then g xs s h else none
  | _ => none
def sAsg (e : XE) (g : XG) : XS := fun s h => match e s h with
  | none => none
  | some (v, h1) => match g v s h1 with
    | none => none
    | some (s1, h2) => some (.nx, s1, h2)
abbrev sSet (i : Nat) (e : XE) : XS := sAsg e (gNm i)
/-- o[k] = v of a cell -/
def stM (h : MH) (o k v : MV) : Option MH := match o with
  | .ref n => match h[n]? with
    | some (.lst xs) => match k with
      | .int i => match ixM xs.length i with
        | some j => some (h.set n (.lst (xs.set j v)))
        | none => none
      | _ => none
    | some (.dK kvs) => match keyOf k with
      | some kk => if kvs.length < szLine then some (h.set n (.dK (putM kvs kk v))) else none
      | none => none
    | some (.dT kvs) => match k with
      | .tup ks => match keysOf ks with
        | some kk => if kvs.length < szLine then some (h.set n (.dT (putM kvs kk v))) else none
        | none => none
      | _ => none
    | _ => none
  | _ => none
/-- o[k] = e: first e, then o, then k -/
def sPut (o k e : XE) : XS := fun s h => match e s h with
  | none => none
  | some (v, h1) => match o s h1 with
    | none => none
    | some (d, h2) => match k s h2 with
      | none => none
      | some (kk, h3) => match stM h3 d kk v with
        | none => none
        | some h4 => some (.nx, s, h4)
/-- a, b = e1, e2 -/
def sPar (i j : Nat) (a b : XE) : XS := fun s h => match a s h with
  | none => none
  | some (v, h1) => match b s h1 with
    | none => none
    | some (w, h2) => some (.nx, (s.set i (some v)).set j (some w), h2)
/-- a, b, c = e1, e2, e3 -/
def sPar3 (i j l : Nat) (a b c : XE) : XS := fun s h => match a s h with
  | none => none
  | some (v, h1) => match b s h1 with
    | none => none
    | some (w, h2) => match c s h2 with
      | none => none
      | some (x, h3) => some (.nx, ((s.set i (some v)).set j (some w)).set l (some x), h3)
/-- while, at most so many turns -/
def whileGo (c : XT) (b : XS) : Nat → XS
  | 0, _, _ => none
  | n + 1, s, h => match c s h with
    | none => none
    | some (false, h1) => some (.nx, s, h1)
    | some (true, h1) => match b s h1 with
      | some (.nx, s2, h2) => whileGo c b n s2 h2
      | some (.ct, s2, h2) => whileGo c b n s2 h2
      | some (.bk, s2, h2) => some (.nx, s2, h2)
      | some (.rt v, s2, h2) => some (.rt v, s2, h2)
      | none => none
/-- what some number of turns answers -/
noncomputable def fuel {α : Type} (f : Nat → Option α) : Option α := open Classical in if hx : ∃ n r, f n = some r then some hx.choose_spec.choose else none
theorem fuel_at {α : Type} {f : Nat → Option α} {r : α} (e : fuel f = some r) : ∃ n, f n = some r := by
  unfold fuel at e
  split at e
  · rename_i hx
    cases e
    exact ⟨hx.choose, hx.choose_spec.choose_spec⟩
  · cases e
theorem fuel_of {α : Type} {f : Nat → Option α} (mono : ∀ n r, f n = some r → f (n + 1) = some r) {n : Nat} {r : α} (e : f n = some r) : fuel f = some r := by
  have up : ∀ (k m : Nat) (q : α), f m = some q → f (m + k) = some q := fun k => by
    induction k with
    | zero => exact fun _ _ h => h
    | succ k ih => exact fun m q h => mono _ _ (ih m q h)
  unfold fuel
  split
  · rename_i hx
    have h1 := up n hx.choose _ hx.choose_spec.choose_spec
    have h2 := up hx.choose n _ e
    rw [Nat.add_comm] at h1
    rw [h1] at h2
    exact h2
  · rename_i hx
    exact absurd ⟨n, r, e⟩ hx
noncomputable def sWhile (c : XT) (b : XS) : XS := fun s h => fuel fun n => whileGo c b n s h
/-- what is walked: values that stand still, or the list in a cell -/
inductive MI where
  | vals (xs : List MV) | cell (n : Nat)
abbrev XI := SM → MH → Option (MI × MH)
def forGo (g : XG) (b : XS) : List MV → XS
  | [], s, h => some (.nx, s, h)
  | x :: xs, s, h => match g x s h with
    | none => none
    | some (s1, h1) => match b s1 h1 with
      | some (.nx, s2, h2) => forGo g b xs s2 h2
      | some (.ct, s2, h2) => forGo g b xs s2 h2
      | some (.bk, s2, h2) => some (.nx, s2, h2)
      | some (.rt v, s2, h2) => some (.rt v, s2, h2)
      | none => none
def forCell (g : XG) (b : XS) (n : Nat) : Nat → Nat → XS
  | 0, _, _, _ => none
  | m + 1, i, s, h => match h[n]? with
    | some (.lst xs) => match xs[i]? with
      | none => some (.nx, s, h)
      | some x => match g x s h with
        | none => none
        | some (s1, h1) => match b s1 h1 with
          | some (.nx, s2, h2) => forCell g b n m (i + 1) s2 h2
          | some (.ct, s2, h2) => forCell g b n m (i + 1) s2 h2
          | some (.bk, s2, h2) => some (.nx, s2, h2)
          | some (.rt v, s2, h2) => some (.rt v, s2, h2)
          | none => none
    | _ => none
noncomputable def sFor (it : XI) (g : XG) (b : XS) : XS := fun s h => match it s h with
  | none => none
  | some (.vals xs, h1) => forGo g b xs s h1
  | some (.cell n, h1) => fuel fun t => forCell g b n t 0 s h1
/-- a list, a tuple that is walked -/
def iSeq (e : XE) : XI := fun s h => match e s h with
  | some (.ref n, h1) => match h1[n]? with
    | some (.lst _) => some (.cell n, h1)
    | _ => none
  | some (v, h1) => match seqOf h1 v with
    | some xs => some (.vals xs, h1)
    | none => none
  | none => none
def iTuple (e : XE) : XI := fun s h => match e s h with
  | some (.tup xs, h1) => some (.vals xs, h1)
  | _ => none
def rngM (lo : Int) (n : Nat) : List MV := (List.range n).map fun i => .int (lo + (i : Nat))
def iRange1 (e : XE) : XI := fun s h => match e s h with
  | some (.int j, h1) => if -(2 ^ 62) ≤ j ∧ j < 2 ^ 62 then some (.vals (rngM 0 j.toNat), h1) else none
  | _ => none
def iRange2 (e f : XE) : XI := fun s h => match e s h with
  | some (.int i, h1) => match f s h1 with
    | some (.int j, h2) => if (-(2 ^ 62) ≤ i ∧ i < 2 ^ 62 ∧ -(2 ^ 62) ≤ j ∧ j < 2 ^ 62) then some (.vals (rngM i (j - i).toNat), h2) else none
    | _ => none
  | _ => none
/-- a comprehension's turns: the list made so far -/
def lcGo (g : XG) (c : XT) (e : XE) : List MV → List MV → SM → MH → Option (List MV × MH)
  | acc, [], _, h => some (acc, h)
  | acc, x :: xs, s, h => match g x s h with
    | none => none
    | some (s1, h1) => match c s1 h1 with
      | none => none
      | some (false, h2) => lcGo g c e acc xs s h2
      | some (true, h2) => match e s1 h2 with
        | none => none
        | some (v, h3) => if acc.length < szLine then lcGo g c e (acc ++ [v]) xs s h3 else none
def lcCell (g : XG) (c : XT) (e : XE) (n : Nat) : Nat → Nat → List MV → SM → MH → Option (List MV × MH)
  | 0, _, _, _, _ => none
  | m + 1, i, acc, s, h => match h[n]? with
    | some (.lst xs) => match xs[i]? with
      | none => some (acc, h)
      | some x => match g x s h with
        | none => none
        | some (s1, h1) => match c s1 h1 with
          | none => none
          | some (false, h2) => lcCell g c e n m (i + 1) acc s h2
          | some (true, h2) => match e s1 h2 with
            | none => none
            | some (v, h3) => if acc.length < szLine then lcCell g c e n m (i + 1) (acc ++ [v]) s h3 else none
    | _ => none
def wipeM (s : SM) : List Nat → SM
  | [] => s
  | v :: vs => (wipeM s vs).set v none
def cYes : XT := fun _ h => some (true, h)
/-- a comprehension over values that stand still -/
noncomputable def xLc (it : XI) (g : XG) (c : XT) (e : XE) (own : List Nat) : XE := fun s h => match it s h with
  | some (.vals xs, h1) => match lcGo g c e [] xs (wipeM s own) h1 with
    | some (ys, h2) => some (.lst ys, h2)
    | none => none
  | some (.cell n, h1) => match fuel fun t => lcCell g c e n t 0 [] (wipeM s own) h1 with
    | some (ys, h2) => some (.lst ys, h2)
    | none => none
  | none => none
def sBegin (n : Nat) (vs : List MV) : SM := vs.map some ++ List.replicate (n - vs.length) none
/-- a def: how many slots, its body -/
def runDef (n : Nat) (b : XS) : Fn := fun vs h => match b (sBegin n vs) h with
  | some (.rt v, _, h1) => some (v, h1)
  | some (.nx, _, h1) => some (.non, h1)
  | _ => none
/-! ### more operations -/
/-- a list that is no script -/
def lstC (h : MH) : MV → Option (List MV)
  | .lst xs => some xs
  | .ref n => match h[n]? with
    | some (.lst xs) => some xs
    | _ => none
  | _ => none
def opCat (h : MH) (x y : MV) : Option MV := match lstC h x, lstC h y with
  | some xs, some ys => if xs.length + ys.length ≤ szLine then some (.lst (xs ++ ys)) else none
  | _, _ => none
abbrev xCat (a b : XE) : XE := xOp opCat a b
/-- a tuple's members -/
def tupV : MV → Option (List MV)
  | .tup xs => some xs
  | .row xs => some xs
  | _ => none
def opCatT (_ : MH) : MV → MV → Option MV
  | x, y => match tupV x, tupV y with
    | some xs, some ys => if xs.length + ys.length ≤ szLine then some (if xs.isEmpty then y else if ys.isEmpty then x else .row (xs ++ ys)) else none
    | _, _ => none
/-- the first place, of a list that is not written again -/
def lstV : MV → Option (List MV)
  | .lst xs => some xs
  | _ => none
def opIndexL0 (_ : MH) (d y : MV) : Option MV := match lstV d with
  | some xs => if flatM y && xs.all flatM then (xs.findIdx? fun z => feqM z y).map fun j => .int (j : Nat) else none
  | none => none
def opIndexR (xs : List MV) (y : MV) : Option MV := match intsOf xs, y with
  | some ns, .int k => if k ∈ ns then some (.int (ns.idxOf k : Nat)) else none
  | _, _ => none
def opIndexL (h : MH) (d y : MV) : Option MV := match d with
  | .row xs => opIndexR xs y
  | d => opIndexL0 h d y
/-- list(d.keys()), sorted(d.keys()) -/
def fKeys (h : MH) (v : MV) : Option MV := (dictK h v).map fun kvs => .lst (kvs.map fun kv => keyV kv.1)
def sortI (ns : List Int) : List Int := ns.mergeSort fun x y => decide (x ≤ y)
def fKeysS (h : MH) (v : MV) : Option MV := match dictK h v with
  | some kvs => (intsOf (kvs.map fun kv => keyV kv.1)).map fun ns => .lst ((sortI ns).map .int)
  | none => none
/-- dict([(k, v), ..]) -/
def pairsK : List MV → Option (List (MK × MV))
  | [] => some []
  | x :: xs => match x with
    | .tup [k, v] => match keyOf k, pairsK xs with
      | some kk, some r => some ((kk, v) :: r)
      | _, _ => none
    | _ => none
/-- sorted(xs), ints, or a list of pairs of ints -/
def pairV (p : Int × Int) : MV := .tup [.int p.1, .int p.2]
def pairsI : List MV → Option (List (Int × Int))
  | [] => some []
  | x :: xs => match x with
    | .tup [.int a, .int b] => (pairsI xs).map ((a, b) :: ·)
    | _ => none
def lexLe (p q : Int × Int) : Bool := decide (p.1 < q.1) || (decide (p.1 = q.1) && decide (p.2 ≤ q.2))
def sortP (ps : List (Int × Int)) : List (Int × Int) := ps.mergeSort lexLe
def fSorted (h : MH) : List MV → Option MV
  | [v] => match seqOf h v with
    | some xs => match intsOf xs with
      | some ns => some (.lst ((sortI ns).map .int))
      | none => match listOf h v with
        | some ys => (pairsI ys).map fun ps => .lst ((sortP ps).map pairV)
        | none => none
    | none => none
  | _ => none
/-- {k: v, ..} -/
def xPairs : List (XE × XE) → SM → MH → Option (List (MK × MV) × MH)
  | [], _, h => some ([], h)
  | (a, b) :: r, s, h => match a s h with
    | none => none
    | some (x, h1) => match b s h1 with
      | none => none
      | some (y, h2) => match keyOf x with
        | none => none
        | some k => match xPairs r s h2 with
          | none => none
          | some (ps, h3) => some ((k, y) :: ps, h3)
def mergeM (kvs more : List (MK × MV)) : List (MK × MV) := more.foldl (fun acc kv => putM acc kv.1 kv.2) kvs
def fDictP (h : MH) : List MV → Option MV
  | [v] => match listOf h v with
    | some xs => (pairsK xs).map fun kvs => .dK (mergeM [] kvs)
    | none => none
  | _ => none
def xDisp (ps : List (XE × XE)) : XE := fun s h => match xPairs ps s h with
  | none => none
  | some (kvs, h1) => if kvs.length ≤ 15 then some (.dK (mergeM [] kvs), h1) else none
/-- d.update(e), both dicts -/
def xUpdate (o e : XE) : XE := fun s h => match o s h with
  | some (.ref n, h1) => match h1[n]? with
    | some (.dK _) => match e s h1 with
      | some (.dK more, h2) => match h2[n]? with
        | some (.dK kvs) => if kvs.length + more.length ≤ szLine then some (.non, h2.set n (.dK (mergeM kvs more))) else none
        | _ => none
      | _ => none
    | _ => none
  | _ => none
/-- for k in d.keys(), d in slot n, a dict that is not written again -/
def sForK (n : Nat) (g : XG) (b : XS) : XS := fun s h => match s[n]? with
  | some (some (.dK kvs)) => forGo g b (kvs.map fun kv => keyV kv.1) s h
  | some (some (.ref m)) => match h[m]? with
    | some (.dK kvs) => match forGo g b (kvs.map fun kv => keyV kv.1) s (h.set m (.lkK kvs)) with
      | some (f, s', h') => match h'[m]? with
        | some (.lkK kvs') => some (f, s', h'.set m (.dK kvs'))
        | _ => none
      | none => none
    | _ => none
  | _ => none
/-- [.. for k in d.keys()] -/
def xLcK (n : Nat) (g : XG) (c : XT) (e : XE) (own : List Nat) : XE := fun s h => match s[n]? with
  | some (some (.dK kvs)) => match lcGo g c e [] (kvs.map fun kv => keyV kv.1) (wipeM s own) h with
    | some (ys, h2) => some (.lst ys, h2)
    | none => none
  | some (some (.ref m)) => match h[m]? with
    | some (.dK kvs) => match lcGo g c e [] (kvs.map fun kv => keyV kv.1) (wipeM s own) (h.set m (.lkK kvs)) with
      | some (ys, h2) => match h2[m]? with
        | some (.lkK kvs') => some (.lst ys, h2.set m (.dK kvs'))
        | _ => none
      | none => none
    | _ => none
  | _ => none
/-- a, b, c = a list -/
def gLp (n : Nat) (g : XGs) : XG := fun v s h => match listOf h v with
  | some xs => if xs.length = n then g xs s h else none
  | none => none
/-- x is True -/
def opIsBl (_ : MH) : MV → MV → Option MV
  | .bl a, .bl b => some (.bl (decide (a = b)))
  | _, _ => none
def opNotBl (_ : MH) : MV → MV → Option MV
  | .bl a, .bl b => some (.bl (!decide (a = b)))
  | _, _ => none
/-- tuple(d.keys()) -/
def fKeysT (h : MH) (v : MV) : Option MV := (dictK h v).map fun kvs => .tup (kvs.map fun kv => keyV kv.1)
/-- t[::-1] -/
def opRevT (_ : MH) : MV → Option MV
  | .tup xs => some (.tup xs.reverse)
  | _ => none
/-- tuple(reversed(t)) -/
def opRevR (_ : MH) (v : MV) : Option MV := (tupV v).map fun xs => .row xs.reverse
/-- enumerate(t), a tuple -/
def enumM (k : Nat) : List MV → List MV
  | [] => []
  | x :: xs => .tup [.int (k : Nat), x] :: enumM (k + 1) xs
def iEnumT (e : XE) : XI := fun s h => match e s h with
  | some (.tup xs, h1) => some (.vals (enumM 0 xs), h1)
  | _ => none
/-- min(xs), max(xs), a list of ints; sorted(xs, reverse=True) -/
def fMinL (h : MH) : List MV → Option MV
  | [v] => match listOf h v with
    | some xs => match intsOf xs with
      | some ns => ns.min?.map .int
      | none => none
    | none => none
  | _ => none
def fMaxL (h : MH) : List MV → Option MV
  | [v] => match listOf h v with
    | some xs => match intsOf xs with
      | some ns => ns.max?.map .int
      | none => none
    | none => none
  | _ => none
def fSortR (h : MH) (v : MV) : Option MV := match seqOf h v with
  | some xs => (intsOf xs).map fun ns => .lst ((sortI ns).reverse.map .int)
  | none => none
/-- max(d.values()), ints -/
def fMaxV (h : MH) (v : MV) : Option MV := match dictK h v with
  | some kvs => match intsOf (kvs.map (·.2)) with
    | some ns => ns.max?.map .int
    | none => none
  | none => none
/-- d.clear() -/
def xClearD (o : XE) : XE := fun s h => match o s h with
  | some (.ref n, h1) => match h1[n]? with
    | some (.dK _) => some (.non, h1.set n (.dK []))
    | _ => none
  | _ => none
/-- zip(xs, ys), lists of one length -/
def zipM (xs ys : List MV) : List MV := (xs.zip ys).map fun p => .tup [p.1, p.2]
def iZipL (e e2 : XE) : XI := fun s h => match e s h with
  | some (.lst xs, h1) => match e2 s h1 with
    | some (.lst ys, h2) => if xs.length = ys.length then some (.vals (zipM xs ys), h2) else none
    | _ => none
  | _ => none
/-- dict(d) -/
def fDictD (h : MH) : List MV → Option MV
  | [v] => (dictK h v).map .dK
  | _ => none
/-- an item that is sorted by ints: (i, row) or a row, one at least -/
def keyZ : MV → Option (Bool × List Int)
  | .tup [.int a, .tup zs] => (intsOf zs).map fun r => (true, a :: r)
  | .tup [.int a, .row zs] => (intsOf zs).map fun r => (true, a :: r)
  | .tup (y :: ys) => (intsOf (y :: ys)).map fun r => (false, r)
  | .row (y :: ys) => (intsOf (y :: ys)).map fun r => (false, r)
  | _ => none
def keysZ (f : Bool) : List MV → Option (List (List Int))
  | [] => some []
  | x :: xs => match keyZ x, keysZ f xs with
    | some (g, k), some ks => if g = f then some (k :: ks) else none
    | _, _ => none
def sortZ (ks : List (List Int)) (xs : List MV) : List MV := ((ks.zip xs).mergeSort fun p q => decide (p.1 ≤ q.1)).map (·.2)
/-- sorted(xs), such items -/
def fSortD (h : MH) : List MV → Option MV
  | [v] => match listOf h v with
    | some xs => match keysZ true xs with
      | some ks => some (.lst (sortZ ks xs))
      | none => match keysZ false xs with
        | some ks => some (.lst (sortZ ks xs))
        | none => none
    | none => none
  | _ => none
/-- enumerate(xs), a list -/
def iEnumL (e : XE) : XI := fun s h => match e s h with
  | some (.lst xs, h1) => some (.vals (enumM 0 xs), h1)
  | _ => none
/-- x in d, d a list of data -/
def opInD (h : MH) (x d : MV) : Option MV := match rdM h d with
  | .lst ys => if isD 60 x && isD 59 x && isDs 59 ys then some (.bl (ys.any fun y => eqD y x)) else none
  | _ => none
def opNotInD (h : MH) (x d : MV) : Option MV := match rdM h d with
  | .lst ys => if isD 60 x && isD 59 x && isDs 59 ys then some (.bl (!ys.any fun y => eqD y x)) else none
  | _ => none
/-- sum(xs), max(xs), min(xs), ints -/
def fSum (h : MH) : List MV → Option MV
  | [v] => match listOf h v with
    | some xs => (intsOf xs).map fun ns => .int ns.sum
    | none => none
  | _ => none
/-- sorted(set(t)), ints, fewer than 64 -/
def onceI : List Int → List Int
  | [] => []
  | x :: xs => if x ∈ xs then onceI xs else x :: onceI xs
def fSortSet (_ : MH) : MV → Option MV
  | .tup xs => match intsOf xs with
    | some ns => if ns.length < 64 then some (.lst ((sortI (onceI ns)).map .int)) else none
    | none => none
  | _ => none
/-! ### sorted by a lambda -/
/-- the keys of some values: the lambda's body, its slots the value and what it captures -/
def keyGo (js : List Nat) (b : XE) (s : SM) : List MV → MH → Option (List Int × MH)
  | [], h => some ([], h)
  | x :: xs, h => match b (some x :: js.map fun j => (s[j]?).join) h with
    | some (.int k, h1) => match keyGo js b s xs h1 with
      | some (ks, h2) => some (k :: ks, h2)
      | none => none
    | _ => none
/-- the cells at the law's start: the tables -/
def tabs0 (n : Nat) : MH := (List.range n).map MC.tab
/-- sorted(e, key=lambda x: b), e a list; the cell n is the table of the def's code objects -/
def xSortK (n : Nat) (js : List Nat) (b : XE) (e : XE) : XE := fun s h => match e s h with
  | none => none
  | some (v, h1) => match h1[n]? with
    | some (.tab m) => if m = n then match listOf h1 v with
      | some xs => if xs.length ≤ szLine then match keyGo js b s xs h1 with
        | some (ks, h2) => some (.lst (((ks.zip xs).mergeSort fun p q => decide (p.1 ≤ q.1)).map (·.2)), h2)
        | none => none
        else none
      | none => none
      else none
    | _ => none
/-! ### what a def's function does, told to its callers: the new cells are forgotten, what was in them is told as values -/
mutual
/-- the raw value (the first) told as the second: n cells stand already; x: the cell that is told as a fresh one, if any -/
def Frz (h : MH) (n x : Nat) : MV → MV → Prop
  | u, .non => u = .non
  | u, .bl b => u = .bl b
  | u, .int i => u = .int i
  | u, .str s => u = .str s
  | u, .scr s => u = .scr s
  | u, .ref m => u = .ref m ∧ m < n
  | u, .tup ys => ∃ xs, u = .tup xs ∧ Frzs h n x xs ys
  | u, .row ys => ∃ xs, u = .row xs ∧ Frzs h n x xs ys
  | u, .lst ys => (∃ xs, u = .lst xs ∧ Frzs h n x xs ys) ∨ ∃ m xs, u = .ref m ∧ n ≤ m ∧ m ≠ x ∧ h[m]? = some (.lst xs) ∧ Frzs h n x xs ys
  | u, .dK ys => (∃ xs, u = .dK xs ∧ Frzk h n x xs ys) ∨ ∃ m xs, u = .ref m ∧ n ≤ m ∧ m ≠ x ∧ h[m]? = some (.dK xs) ∧ Frzk h n x xs ys
  | u, .dT ys => (∃ xs, u = .dT xs ∧ Frzt h n x xs ys) ∨ ∃ m xs, u = .ref m ∧ n ≤ m ∧ m ≠ x ∧ h[m]? = some (.dT xs) ∧ Frzt h n x xs ys
def Frzs (h : MH) (n x : Nat) : List MV → List MV → Prop
  | us, [] => us = []
  | us, y :: ys => ∃ u t, us = u :: t ∧ Frz h n x u y ∧ Frzs h n x t ys
def Frzk (h : MH) (n x : Nat) : List (MK × MV) → List (MK × MV) → Prop
  | us, [] => us = []
  | us, (k, y) :: ys => ∃ u t, us = (k, u) :: t ∧ Frz h n x u y ∧ Frzk h n x t ys
def Frzt (h : MH) (n x : Nat) : List (List MK × MV) → List (List MK × MV) → Prop
  | us, [] => us = []
  | us, (k, y) :: ys => ∃ u t, us = (k, u) :: t ∧ Frz h n x u y ∧ Frzt h n x t ys
end
def CFrz (h : MH) (n x : Nat) : MC → MC → Prop
  | .lst us, .lst ys => Frzs h n x us ys
  | .dK us, .dK ys => Frzk h n x us ys
  | .dT us, .dT ys => Frzt h n x us ys
  | .lkK us, .lkK ys => Frzk h n x us ys
  | .lkT us, .lkT ys => Frzt h n x us ys
  | _, _ => False
/-- the cells that stood, behind the call -/
def CelOK (h h2 h' : MH) (x : Nat) : Prop := h'.length = h.length ∧ h.length ≤ h2.length ∧ ∀ (i : Nat) (c : MC), h'[i]? = some c → (h2[i]? = some c ∧ h[i]? = some c) ∨ ∃ c2, h2[i]? = some c2 ∧ CFrz h2 h.length x c2 c
/-- g may be told as: at these arguments it hands back v and leaves the cells h' -/
def FrzOK (g : Fn) (args : List MV) (h : MH) (v : MV) (h' : MH) : Prop := ∃ v2 h2, g args h = some (v2, h2) ∧ CelOK h h2 h' h2.length ∧ Frz h2 h.length h2.length v2 v
/-- .. a fresh list or dict -/
def FrzF (g : Fn) (args : List MV) (h : MH) (v : MV) (h' : MH) : Prop := ∃ m c h2, g args h = some (.ref m, h2) ∧ h.length ≤ m ∧ h2[m]? = some c ∧ CelOK h h2 h' m ∧ match c, v with
  | .lst us, .lst ys => Frzs h2 h.length m us ys
  | .dK us, .dK ys => Frzk h2 h.length m us ys
  | .dT us, .dT ys => Frzt h2 h.length m us ys
  | _, _ => False
/-! ### told by what they do -/
mutual
/-- no cell is named -/
def plainV : MV → Bool
  | .ref _ => false
  | .tup xs => plainL xs
  | .row xs => plainL xs
  | .lst xs => plainL xs
  | .dK kvs => plainK kvs
  | .dT kvs => plainT kvs
  | _ => true
def plainL : List MV → Bool
  | [] => true
  | x :: xs => plainV x && plainL xs
def plainK : List (MK × MV) → Bool
  | [] => true
  | (_, x) :: xs => plainV x && plainK xs
def plainT : List (List MK × MV) → Bool
  | [] => true
  | (_, x) :: xs => plainV x && plainT xs
end
def plainC : MC → Bool
  | .lst xs => plainL xs
  | .dK xs => plainK xs
  | .dT xs => plainT xs
  | .lkK xs => plainK xs
  | .lkT xs => plainT xs
  | .tab _ => false
def Keeps (h h2 : MH) : Prop := h.length ≤ h2.length ∧ ∀ (i : Nat) (c : MC), i < h.length → h2[i]? = some c → h[i]? = some c ∨ plainC c = true
/-- a def that hands back a plain value -/
noncomputable def toldV (g : Fn) : Fn := open Classical in fun args h => match g args h with
  | some (v, h2) => if plainV v = true ∧ Keeps h h2 then some (v, h2.take h.length) else none
  | none => none
/-- .. a new list or dict of plain values -/
noncomputable def toldF (g : Fn) : Fn := open Classical in fun args h => match g args h with
  | some (.ref m, h2) => if h.length ≤ m ∧ Keeps h h2 then match h2[m]? with
    | some (.lst xs) => if plainL xs = true then some (.lst xs, h2.take h.length) else none
    | some (.dK xs) => if plainK xs = true then some (.dK xs, h2.take h.length) else none
    | _ => none
    else none
  | _ => none
end Ew
end

section
set_option linter.all false
/-! EwSA: more operations of the small machine. -/
namespace Ew
open PySem (Str)
/-- == of two lists of dicts of data that are equal -/
def dictsOf (h : MH) : List MV → Option (List (List (MK × MV)))
  | [] => some []
  | x :: xs => match dictK h x, dictsOf h xs with
    | some kvs, some r => some (kvs :: r)
    | _, _ => none
def eqDs2 : List (List (MK × MV)) → List (List (MK × MV)) → Bool
  | [], [] => true
  | x :: xs, y :: ys => dataKs x && dataKs y && eqKs x y && eqDs2 xs ys
  | _, _ => false
def eqDL (h : MH) (x y : MV) : Bool := match lstC h x, lstC h y with
  | some xs, some ys => match dictsOf h xs, dictsOf h ys with
    | some ds, some es => eqDs2 ds es
    | _, _ => false
  | _, _ => false
def opEqDL (h : MH) (x y : MV) : Option MV := if eqDL h x y then some (.bl true) else none
def opNeDL (h : MH) (x y : MV) : Option MV := if eqDL h x y then some (.bl false) else none
/-- str(i) -/
def fStrI (_ : MH) : List MV → Option MV
  | [.int i] => if i.natAbs.log2 < 1920 then some (.str (toString i)) else none
  | _ => none
/-- reversed(x), a list or a tuple, walked -/
def revV : MV → Option (List MV)
  | .lst xs => some xs
  | .tup xs => some xs
  | .row xs => some xs
  | _ => none
def iRev (e : XE) : XI := fun s h => match e s h with
  | some (v, h1) => match revV v with
    | some xs => some (.vals xs.reverse, h1)
    | none => none
  | none => none
/-- xs[::-1], a list -/
def opRevLst (h : MH) (v : MV) : Option MV := (listOf h v).map fun xs => .lst xs.reverse
/-- xs.count(k), ints -/
def opCountI (h : MH) (d y : MV) : Option MV := match listOf h d, y with
  | some xs, .int k => (intsOf xs).map fun ns => .int (ns.count k : Nat)
  | _, _ => none
/-- a op b op' c -/
def xChain (f f' : MH → MV → MV → Option MV) (a b c : XE) : XE := fun s h => match a s h with
  | none => none
  | some (x, h1) => match b s h1 with
    | none => none
    | some (y, h2) => match f h2 x y with
      | some (.bl true) => match c s h2 with
        | none => none
        | some (z, h3) => match f' h3 y z with
          | none => none
          | some v => some (v, h3)
      | some (.bl false) => some (.bl false, h2)
      | _ => none
/-- i >> j, i & 1, 1 << j -/
def opShr (_ : MH) : MV → MV → Option MV
  | .int i, .int j => if 0 ≤ j then some (.int (i / 2 ^ j.toNat)) else none
  | _, _ => none
def opAnd1 (_ : MH) : MV → MV → Option MV
  | .int i, .int j => if j = 1 then some (.int (i % 2)) else none
  | _, _ => none
def opShl1 (_ : MH) : MV → MV → Option MV
  | .int i, .int j => if i = 1 ∧ 0 ≤ j ∧ j ≤ 100000 then some (.int (2 ^ j.toNat)) else none
  | _, _ => none
/-- xs.clear() -/
def xClearL (o : XE) : XE := fun s h => match o s h with
  | some (.ref n, h1) => match h1[n]? with
    | some (.lst _) => some (.non, h1.set n (.lst []))
    | _ => none
  | _ => none
def isDct (h : MH) (d : MV) : Bool := (dictK h d).isSome || (dictT h d).isSome
/-- d.get(k), d.get(k, x) -/
def xGet1 (o k : XE) : XE := fun s h => match o s h with
  | some (d, h1) => if isDct h1 d then match k s h1 with
    | some (y, h2) => match lookM h2 d y with
      | some r => some (r.getD .non, h2)
      | none => none
    | none => none
    else none
  | none => none
def xGet2 (o k e : XE) : XE := fun s h => match o s h with
  | some (d, h1) => if isDct h1 d then match k s h1 with
    | some (y, h2) => match e s h2 with
      | some (x, h3) => match lookM h3 d y with
        | some r => some (r.getD x, h3)
        | none => none
      | none => none
    | none => none
    else none
  | none => none
/-- d.pop(k), the key is there -/
def dropM (kvs : List (MK × MV)) (k : MK) : List (MK × MV) := kvs.filter fun kv => decide (kv.1 ≠ k)
def xDPop (o k : XE) : XE := fun s h => match o s h with
  | some (.ref n, h1) => match h1[n]? with
    | some (.dK _) => match k s h1 with
      | some (y, h2) => match h2[n]?, keyOf y with
        | some (.dK kvs), some kk => match getK kvs kk with
          | some v => some (v, h2.set n (.dK (dropM kvs kk)))
          | none => none
        | _, _ => none
      | none => none
    | _ => none
  | _ => none
/-- [.. for k in o.keys()], o whatever names a cell; o is read twice -/
def xLcKE (o : XE) (g : XG) (c : XT) (e : XE) (own : List Nat) : XE := fun s h => match o s h with
  | some (.ref m, _) => match h[m]? with
    | some (.dK kvs) => match o s (h.set m (.lkK kvs)) with
      | some (.ref m', h1) => if m' = m then match h1[m]? with
        | some (.lkK kvs1) => match lcGo g c e [] (kvs1.map fun kv => keyV kv.1) (wipeM s own) h1 with
          | some (ys, h2) => match h2[m]? with
            | some (.lkK kvs') => some (.lst ys, h2.set m (.dK kvs'))
            | _ => none
          | none => none
        | _ => none
        else none
      | _ => none
    | _ => none
  | _ => none
/-- for k in o.keys() -/
def sForKE (o : XE) (g : XG) (b : XS) : XS := fun s h => match o s h with
  | some (.ref m, _) => match h[m]? with
    | some (.dK kvs) => match o s (h.set m (.lkK kvs)) with
      | some (.ref m', h1) => if m' = m then match h1[m]? with
        | some (.lkK kvs1) => match forGo g b (kvs1.map fun kv => keyV kv.1) s h1 with
          | some (f, s', h2) => match h2[m]? with
            | some (.lkK kvs') => some (f, s', h2.set m (.dK kvs'))
            | _ => none
          | none => none
        | _ => none
        else none
      | _ => none
    | _ => none
  | _ => none
/-- xs.index(k), a list in a cell -/
def xIndexC (o e : XE) : XE := fun s h => match o s h with
  | some (.ref n, h1) => if isLstC h1 n then match e s h1 with
    | some (y, h2) => match h2[n]? with
      | some (.lst xs) => if flatM y && xs.all flatM then match xs.findIdx? fun z => feqM z y with
        | some j => some (.int (j : Nat), h2)
        | none => none
        else none
      | _ => none
    | none => none
    else none
  | _ => none
/-- for x in reversed(o), o a list in a cell: from the last but k on -/
def forRev (g : XG) (b : XS) (n : Nat) : Nat → XS
  | 0, s, h => some (.nx, s, h)
  | k + 1, s, h => match h[n]? with
    | some (.lst xs) => match xs[k]? with
      | none => none
      | some x => match g x s h with
        | none => none
        | some (s1, h1) => match b s1 h1 with
          | some (.nx, s2, h2) => forRev g b n k s2 h2
          | some (.ct, s2, h2) => forRev g b n k s2 h2
          | some (.bk, s2, h2) => some (.nx, s2, h2)
          | some (.rt v, s2, h2) => some (.rt v, s2, h2)
          | none => none
    | _ => none
def sForRevC (o : XE) (g : XG) (b : XS) : XS := fun s h => match o s h with
  | some (.ref n, h1) => match h1[n]? with
    | some (.lst xs) => forRev g b n xs.length s h1
    | _ => none
  | _ => none
end Ew
end

section
set_option Elab.async false
set_option linter.all false
set_option maxRecDepth 100000
set_option maxHeartbeats 4000000
/-! EwB: the hand layer's readings of the small machine EwS. -/
namespace Ew
open PySem PySem.Spec PyProof.Rows L2
/-- the tables of the defs that make lambdas: where they stand, what the lambdas are called -/
class Tabs where
  adr : Nat → Addr
  nm : Nat → Str
variable [Tabs]

/-! ### what a value of the machine stands for -/
/-- r: the cells' addresses; w: addresses that are withheld (lists that are being made) -/
def Out (r w : List Addr) (a : Addr) : Prop := a ∉ r ∧ a ∉ w
def TupAt (r w : List Addr) (H : Hp) (a : Addr) (us : List V) : Prop := Out r w a ∧ H a = some (.tup us)
/-- a tuple that has no dict -/
def RowAt (r w : List Addr) (H : Hp) (a : Addr) (us : List V) : Prop := Out r w a ∧ ∃ o : Obj, o.cls = .type "tuple" ∧ o.dict = none ∧ H a = some (.frz o (.tup us))
/-- the script, should it stand in the written part -/
def KScr (K : PySem.W.Frag) (a : Addr) (us : List V) : Prop := ∃ (o : Obj) (its : Array Value) (n : Nat), K.lookup a = some o ∧ o.cls = .type "list" ∧ o.dict = none ∧ o.data = .seq its n ∧ its.size ≤ sizeLine ∧ Vals us its.toList
section
variable (K : PySem.W.Frag)
mutual
def VR (r w : List Addr) (H : Hp) : MV → V → Prop
  | .non, u => u = .non
  | .bl b, u => u = .bl b
  | .int i, u => u = .int i
  | .str x, u => u = .str x
  | .ref n, u => ∃ a, u = .ref a ∧ r[n]? = some a
  | .tup xs, u => ∃ a us, u = .ref a ∧ TupAt r w H a us ∧ VRs r w H xs us
  | .row xs, u => ∃ a us, u = .ref a ∧ RowAt r w H a us ∧ VRs r w H xs us
  | .lst xs, u => ∃ a us, u = .ref a ∧ Out r w a ∧ H a = some (.lst us) ∧ VRs r w H xs us
  | .scr xs, u => ∃ a, u = .ref a ∧ ((Out r w a ∧ Rd H a (.lst (xs.map V.int))) ∨ KScr K a (xs.map V.int))
  | .dK kvs, u => ∃ a us, u = .ref a ∧ Out r w a ∧ Rd H a (.dK us) ∧ VRk r w H kvs us
  | .dT kvs, u => ∃ a us, u = .ref a ∧ Out r w a ∧ Rd H a (.dT us) ∧ VRt r w H kvs us
def VRs (r w : List Addr) (H : Hp) : List MV → List V → Prop
  | [], us => us = []
  | x :: xs, us => ∃ u t, us = u :: t ∧ VR r w H x u ∧ VRs r w H xs t
def VRk (r w : List Addr) (H : Hp) : List (MK × MV) → List (Key × V) → Prop
  | [], us => us = []
  | (k, x) :: xs, us => ∃ u t, us = (k, u) :: t ∧ VR r w H x u ∧ VRk r w H xs t
def VRt (r w : List Addr) (H : Hp) : List (List MK × MV) → List (List Key × V) → Prop
  | [], us => us = []
  | (k, x) :: xs, us => ∃ u t, us = (k, u) :: t ∧ VR r w H x u ∧ VRt r w H xs t
end
/-- a table: each code object that it tells bears the name q -/
def TabC (r w : List Addr) (H : Hp) (a : Addr) (q : Str) : Prop := ∃ ps : Array Value, H a = some (.tbl ps) ∧ TriplesOk ps.toList ∧ ∀ (pos : Pos) (cv : Value), codeAmong pos ps.toList = some cv → ∃ c, cv = .ref c ∧ Out r w c ∧ H c = some (LamX.CodeO c q)
/-- what stands in a cell -/
def CRel (r w : List Addr) (H : Hp) (a : Addr) : MC → Prop
  | .lst xs => ∃ us, H a = some (.lst us) ∧ VRs K r w H xs us
  | .dK kvs => ∃ us, H a = some (.dK us) ∧ VRk K r w H kvs us
  | .dT kvs => ∃ us, H a = some (.dT us) ∧ VRt K r w H kvs us
  | .lkK kvs => ∃ o us, H a = some (.frz o (.dK us)) ∧ VRk K r w H kvs us
  | .lkT kvs => ∃ o us, H a = some (.frz o (.dT us)) ∧ VRt K r w H kvs us
  | .tab n => a = Tabs.adr n ∧ TabC r w H a (Tabs.nm n)
structure Rel (r w : List Addr) (h : MH) (H : Hp) : Prop where
  len : r.length = h.length
  nd : r.Nodup
  at_ : ∀ (n : Nat) (a : Addr) (c : MC), r[n]? = some a → h[n]? = some c → CRel K r w H a c
  wh : ∀ d ∈ w, d ∉ r ∧ ∃ o, H d = some o
/-- the slots -/
def SR (r w : List Addr) (H : Hp) (s : SM) (z : L2.St) : Prop := s.length = z.length ∧ ∀ (i : Nat) (v : MV), s[i]? = some (some v) → ∃ u, z[i]? = some (some u) ∧ VR K r w H v u
end
/-- o still stands at a, up to a dict's lock -/
def Kp (H' : Hp) (a : Addr) (o : HO) : Prop := H' a = some o ∨ (∃ od kvs, o = .dK kvs ∧ H' a = some (.frz od (.dK kvs))) ∨ (∃ od kvs, o = .frz od (.dK kvs) ∧ H' a = some (.dK kvs)) ∨
  (∃ od kvs, o = .dT kvs ∧ H' a = some (.frz od (.dT kvs))) ∨ (∃ od kvs, o = .frz od (.dT kvs) ∧ H' a = some (.dT kvs))
theorem Kp.lst {H' : Hp} {a : Addr} {xs : List V} (h : Kp H' a (.lst xs)) : H' a = some (.lst xs) := by
  rcases h with h | ⟨_, _, e, _⟩ | ⟨_, _, e, _⟩ | ⟨_, _, e, _⟩ | ⟨_, _, e, _⟩
  · exact h
  all_goals cases e
theorem Kp.tup {H' : Hp} {a : Addr} {xs : List V} (h : Kp H' a (.tup xs)) : H' a = some (.tup xs) := by
  rcases h with h | ⟨_, _, e, _⟩ | ⟨_, _, e, _⟩ | ⟨_, _, e, _⟩ | ⟨_, _, e, _⟩
  · exact h
  all_goals cases e
theorem Kp.row {H' : Hp} {a : Addr} {o : Obj} {xs : List V} (h : Kp H' a (.frz o (.tup xs))) : H' a = some (.frz o (.tup xs)) := by
  rcases h with h | ⟨_, _, e, _⟩ | ⟨_, _, e, _⟩ | ⟨_, _, e, _⟩ | ⟨_, _, e, _⟩
  · exact h
  all_goals cases e
theorem Kp.ext {H' : Hp} {a : Addr} {f : Heap → Prop} (h : Kp H' a (.ext f)) : H' a = some (.ext f) := by
  rcases h with h | ⟨_, _, e, _⟩ | ⟨_, _, e, _⟩ | ⟨_, _, e, _⟩ | ⟨_, _, e, _⟩
  · exact h
  all_goals cases e
theorem Kp.scr {H' : Hp} {a : Addr} {o : Obj} {xs : List V} (h : Kp H' a (.frz o (.lst xs))) : H' a = some (.frz o (.lst xs)) := by
  rcases h with h | ⟨_, _, e, _⟩ | ⟨_, _, e, _⟩ | ⟨_, _, e, _⟩ | ⟨_, _, e, _⟩
  · exact h
  all_goals cases e
theorem Kp.dK {H H' : Hp} {a : Addr} {kvs : List (Key × V)} (h : ∀ o, H a = some o → Kp H' a o) (r : Rd H a (.dK kvs)) : Rd H' a (.dK kvs) := by
  rcases r with r | ⟨o, r⟩
  · rcases h _ r with h | ⟨od, _, e, h⟩ | ⟨_, _, e, _⟩ | ⟨_, _, e, _⟩ | ⟨_, _, e, _⟩
    · exact .inl h
    · cases e; exact .inr ⟨od, h⟩
    all_goals cases e
  · rcases h _ r with h | ⟨od, _, e, h⟩ | ⟨_, _, e, h⟩ | ⟨_, _, e, _⟩ | ⟨_, _, e, _⟩
    · exact .inr ⟨o, h⟩
    · cases e
    · cases e; exact .inl h
    all_goals cases e
theorem Kp.dT {H H' : Hp} {a : Addr} {kvs : List (List Key × V)} (h : ∀ o, H a = some o → Kp H' a o) (r : Rd H a (.dT kvs)) : Rd H' a (.dT kvs) := by
  rcases r with r | ⟨o, r⟩
  · rcases h _ r with h | ⟨_, _, e, _⟩ | ⟨_, _, e, _⟩ | ⟨od, _, e, h⟩ | ⟨_, _, e, _⟩
    · exact .inl h
    · cases e
    · cases e
    · cases e; exact .inr ⟨od, h⟩
    · cases e
  · rcases h _ r with h | ⟨_, _, e, _⟩ | ⟨_, _, e, _⟩ | ⟨_, _, e, _⟩ | ⟨_, _, e, h⟩
    · exact .inr ⟨o, h⟩
    · cases e
    · cases e
    · cases e
    · cases e; exact .inl h
/-- what values lean on is kept -/
structure Stp (r w : List Addr) (H : Hp) (r' w' : List Addr) (H' : Hp) : Prop where
  ix : ∀ (n : Nat) (a : Addr), r[n]? = some a → r'[n]? = some a
  keep : ∀ a o, Out r w a → H a = some o → Out r' w' a ∧ Kp H' a o
/-- what is kept from one state to a later one: the cells get more, by new addresses; what is no cell stays -/
structure Fwd (r : List Addr) (H : Hp) (r' : List Addr) (H' : Hp) : Prop where
  ext : ∃ ps, r' = r ++ ps ∧ ∀ p ∈ ps, H p = none
  keep : ∀ a o, a ∉ r → H a = some o → H' a = some o
  frz : ∀ a o u, H a = some (.frz o u) → H' a = some (.frz o u)
theorem Fwd.refl (r : List Addr) (H : Hp) : Fwd r H r H := ⟨⟨[], by simp, fun _ h => nomatch h⟩, fun _ _ _ h => h, fun _ _ _ h => h⟩
theorem Fwd.nin {r r' : List Addr} {H H' : Hp} (F : Fwd r H r' H') {a : Addr} {o : HO} (h : a ∉ r) (e : H a = some o) : a ∉ r' := by
  obtain ⟨ps, rfl, hp⟩ := F.ext
  intro hm
  rcases List.mem_append.mp hm with hm | hm
  · exact h hm
  · rw [hp a hm] at e; cases e
theorem Fwd.at_ {r r' : List Addr} {H H' : Hp} (F : Fwd r H r' H') {n : Nat} {a : Addr} (h : r[n]? = some a) : r'[n]? = some a := by
  obtain ⟨ps, rfl, hp⟩ := F.ext
  rw [List.getElem?_append_left (by have := (List.getElem?_eq_some_iff.mp h).1; exact this)]
  exact h
theorem Fwd.stp {r r' w : List Addr} {H H' : Hp} (F : Fwd r H r' H') : Stp r w H r' w H' := ⟨fun n a h => F.at_ h, fun a o n e => ⟨⟨F.nin n.1 e, n.2⟩, .inl (F.keep a o n.1 e)⟩⟩
section
variable {K : PySem.W.Frag} {r r' r2 w w' : List Addr} {H H' H2 : Hp}
theorem TupAt.map (F : Stp r w H r' w' H') {a : Addr} {us : List V} (h : TupAt r w H a us) : TupAt r' w' H' a us := ⟨(F.keep _ _ h.1 h.2).1, (F.keep _ _ h.1 h.2).2.tup⟩
theorem RowAt.map (F : Stp r w H r' w' H') {a : Addr} {us : List V} (h : RowAt r w H a us) : RowAt r' w' H' a us := by
  obtain ⟨n, o, c, d, h⟩ := h
  exact ⟨(F.keep _ _ n h).1, o, c, d, (F.keep _ _ n h).2.row⟩
theorem RowAt.sq {K : PySem.W.Frag} {a : Addr} {us : List V} (h : RowAt r w H a us) : SqT K H a us := by
  obtain ⟨_, o, _, _, h⟩ := h
  exact .inl (.inr ⟨o, h⟩)
theorem TupAt.sq {K : PySem.W.Frag} {a : Addr} {us : List V} (h : TupAt r w H a us) : SqT K H a us := .inl (.inl h.2)
mutual
theorem VR.map (F : Stp r w H r' w' H') : ∀ (v : MV) (u : V), VR K r w H v u → VR K r' w' H' v u
  | .non, u, h => by simpa [VR] using h
  | .bl b, u, h => by simpa [VR] using h
  | .int i, u, h => by simpa [VR] using h
  | .str x, u, h => by simpa [VR] using h
  | .ref n, u, h => by
    simp only [VR] at h ⊢
    obtain ⟨a, e, h⟩ := h
    exact ⟨a, e, F.ix _ _ h⟩
  | .tup xs, u, h => by
    simp only [VR] at h ⊢
    obtain ⟨a, us, e, h, q⟩ := h
    exact ⟨a, us, e, h.map F, VRs.map F xs us q⟩
  | .row xs, u, h => by
    simp only [VR] at h ⊢
    obtain ⟨a, us, e, h, q⟩ := h
    exact ⟨a, us, e, h.map F, VRs.map F xs us q⟩
  | .lst xs, u, h => by
    simp only [VR] at h ⊢
    obtain ⟨a, us, e, n, h, q⟩ := h
    exact ⟨a, us, e, (F.keep _ _ n h).1, (F.keep _ _ n h).2.lst, VRs.map F xs us q⟩
  | .scr xs, u, h => by
    simp only [VR] at h ⊢
    obtain ⟨a, e, h⟩ := h
    rcases h with ⟨n, h | ⟨o, h⟩⟩ | h
    · exact ⟨a, e, .inl ⟨(F.keep _ _ n h).1, .inl (F.keep _ _ n h).2.lst⟩⟩
    · exact ⟨a, e, .inl ⟨(F.keep _ _ n h).1, .inr ⟨o, (F.keep _ _ n h).2.scr⟩⟩⟩
    · exact ⟨a, e, .inr h⟩
  | .dK xs, u, h => by
    simp only [VR] at h ⊢
    obtain ⟨a, us, e, n, h, q⟩ := h
    have no : Out r' w' a := by
      rcases h with h | ⟨o, h⟩
      · exact (F.keep _ _ n h).1
      · exact (F.keep _ _ n h).1
    exact ⟨a, us, e, no, Kp.dK (fun o z => (F.keep _ _ n z).2) h, VRk.map F xs us q⟩
  | .dT xs, u, h => by
    simp only [VR] at h ⊢
    obtain ⟨a, us, e, n, h, q⟩ := h
    have no : Out r' w' a := by
      rcases h with h | ⟨o, h⟩
      · exact (F.keep _ _ n h).1
      · exact (F.keep _ _ n h).1
    exact ⟨a, us, e, no, Kp.dT (fun o z => (F.keep _ _ n z).2) h, VRt.map F xs us q⟩
theorem VRs.map (F : Stp r w H r' w' H') : ∀ (v : List MV) (u : List V), VRs K r w H v u → VRs K r' w' H' v u
  | [], u, h => by simpa [VRs] using h
  | x :: xs, u, h => by
    simp only [VRs] at h ⊢
    obtain ⟨a, t, e, h, q⟩ := h
    exact ⟨a, t, e, VR.map F x a h, VRs.map F xs t q⟩
theorem VRk.map (F : Stp r w H r' w' H') : ∀ (v : List (MK × MV)) (u : List (Key × V)), VRk K r w H v u → VRk K r' w' H' v u
  | [], u, h => by simpa [VRk] using h
  | (k, x) :: xs, u, h => by
    simp only [VRk] at h ⊢
    obtain ⟨a, t, e, h, q⟩ := h
    exact ⟨a, t, e, VR.map F x a h, VRk.map F xs t q⟩
theorem VRt.map (F : Stp r w H r' w' H') : ∀ (v : List (List MK × MV)) (u : List (List Key × V)), VRt K r w H v u → VRt K r' w' H' v u
  | [], u, h => by simpa [VRt] using h
  | (k, x) :: xs, u, h => by
    simp only [VRt] at h ⊢
    obtain ⟨a, t, e, h, q⟩ := h
    exact ⟨a, t, e, VR.map F x a h, VRt.map F xs t q⟩
end
theorem VR.fwd (F : Fwd r H r' H') (v : MV) (u : V) (h : VR K r w H v u) : VR K r' w H' v u := VR.map F.stp v u h
theorem VRs.fwd (F : Fwd r H r' H') (v : List MV) (u : List V) (h : VRs K r w H v u) : VRs K r' w H' v u := VRs.map F.stp v u h
theorem TabC.map (F : Stp r w H r' w' H') {a : Addr} {q : Str} (e : H' a = H a) (h : TabC r w H a q) : TabC r' w' H' a q := by
  obtain ⟨ps, h1, h2, h3⟩ := h
  refine ⟨ps, e.trans h1, h2, fun pos cv hc => ?_⟩
  obtain ⟨c, rfl, n, hc⟩ := h3 pos cv hc
  exact ⟨c, rfl, (F.keep _ _ n hc).1, (F.keep _ _ n hc).2.ext⟩
theorem CRel.map (F : Stp r w H r' w' H') {a : Addr} {c : MC} (e : H' a = H a) (h : CRel K r w H a c) : CRel K r' w' H' a c := by
  cases c <;> simp only [CRel] at h ⊢
  · obtain ⟨us, h, q⟩ := h; exact ⟨us, e.trans h, VRs.map F _ _ q⟩
  · obtain ⟨us, h, q⟩ := h; exact ⟨us, e.trans h, VRk.map F _ _ q⟩
  · obtain ⟨us, h, q⟩ := h; exact ⟨us, e.trans h, VRt.map F _ _ q⟩
  · obtain ⟨o, us, h, q⟩ := h; exact ⟨o, us, e.trans h, VRk.map F _ _ q⟩
  · obtain ⟨o, us, h, q⟩ := h; exact ⟨o, us, e.trans h, VRt.map F _ _ q⟩
  · exact ⟨h.1, h.2.map F e⟩
theorem CRel.there {a : Addr} {c : MC} (h : CRel K r w H a c) : ∃ o, H a = some o := by
  cases c <;> simp only [CRel] at h
  · obtain ⟨us, z, _⟩ := h; exact ⟨_, z⟩
  · obtain ⟨us, z, _⟩ := h; exact ⟨_, z⟩
  · obtain ⟨us, z, _⟩ := h; exact ⟨_, z⟩
  · obtain ⟨o, us, z, _⟩ := h; exact ⟨_, z⟩
  · obtain ⟨o, us, z, _⟩ := h; exact ⟨_, z⟩
  · obtain ⟨_, ps, z, _⟩ := h; exact ⟨_, z⟩
theorem SR.map (F : Stp r w H r' w' H') {s : SM} {z : L2.St} (h : SR K r w H s z) : SR K r' w' H' s z :=
  ⟨h.1, fun i v e => let ⟨u, e1, e2⟩ := h.2 i v e; ⟨u, e1, VR.map F v u e2⟩⟩
theorem SR.fwd (F : Fwd r H r' H') {s : SM} {z : L2.St} (h : SR K r w H s z) : SR K r' w H' s z := h.map F.stp
theorem Rel.there {h : MH} (R : Rel K r w h H) {a : Addr} (hm : a ∈ r) : ∃ o, H a = some o := by
  obtain ⟨n, hn⟩ := List.getElem?_of_mem hm
  have hl : n < h.length := by rw [← R.len]; exact (List.getElem?_eq_some_iff.mp hn).1
  exact (R.at_ n a h[n] hn (List.getElem?_eq_getElem hl)).there
theorem Rel.nin {h : MH} (R : Rel K r w h H) {p : Addr} (hp : H p = none) : p ∉ r := fun hm => by
  obtain ⟨u, e⟩ := R.there hm
  rw [hp] at e; cases e
theorem Rel.ninw {h : MH} (R : Rel K r w h H) {p : Addr} (hp : H p = none) : p ∉ w := fun hm => by
  obtain ⟨_, u, e⟩ := R.wh p hm
  rw [hp] at e; cases e
theorem Fwd.trans (F : Fwd r H r' H') (G : Fwd r' H' r2 H2) (hr : ∀ p, H' p = none → H p = none) : Fwd r H r2 H2 := by
  obtain ⟨ps, rfl, hp⟩ := F.ext
  obtain ⟨qs, rfl, hq⟩ := G.ext
  refine ⟨⟨ps ++ qs, by simp, fun p hm => ?_⟩, fun a o n e => G.keep a o (F.nin n e) (F.keep a o n e), fun a o u e => G.frz a o u (F.frz a o u e)⟩
  rcases List.mem_append.mp hm with hm | hm
  · exact hp p hm
  · exact hr p (hq p hm)
/-- where the cells stand, what is free now was free -/
theorem Fwd.free {h' : MH} (F : Fwd r H r' H') (R' : Rel K r' w h' H') (p : Addr) (e : H' p = none) : H p = none := by
  cases q : H p with
  | none => rfl
  | some o =>
    by_cases hm : p ∈ r
    · obtain ⟨n, hn⟩ := List.getElem?_of_mem hm
      obtain ⟨u, z⟩ := R'.there (List.mem_of_getElem? (F.at_ hn))
      rw [e] at z; cases z
    · rw [F.keep p o hm q] at e; cases e
theorem Fwd.tr {h' : MH} (F : Fwd r H r' H') (R' : Rel K r' w h' H') (G : Fwd r' H' r2 H2) : Fwd r H r2 H2 := F.trans G (F.free R')
/-- a new object, no cell -/
theorem Fwd.new (r : List Addr) {p : Addr} {o : HO} (hp : H p = none) : Fwd r H r (upd H p o) :=
  ⟨⟨[], by simp, fun _ h => nomatch h⟩, fun a u _ e => by rw [upd_ne (ne_of_none e hp)]; exact e, fun a o u e => by rw [upd_ne (ne_of_none e hp)]; exact e⟩
theorem Rel.new {h : MH} (R : Rel K r w h H) {p : Addr} {o : HO} (hp : H p = none) : Rel K r w h (upd H p o) :=
  ⟨R.len, R.nd, fun n a c hn hc => (R.at_ n a c hn hc).map (Fwd.new r hp).stp (by
    obtain ⟨u, e⟩ := R.there (List.mem_of_getElem? hn)
    exact upd_ne (ne_of_none e hp)), fun d hd => by
    obtain ⟨n, u, e⟩ := R.wh d hd
    exact ⟨n, u, (upd_ne (ne_of_none e hp)).trans e⟩⟩
/-- a new object that is withheld -/
theorem Stp.hold {h : MH} (R : Rel K r w h H) {p : Addr} {o : HO} (hp : H p = none) : Stp r w H r (p :: w) (upd H p o) :=
  ⟨fun _ _ h => h, fun a u n e => by
    have ne : a ≠ p := ne_of_none e hp
    exact ⟨⟨n.1, fun hm => by rcases List.mem_cons.mp hm with z | z; exact ne z; exact n.2 z⟩, .inl ((upd_ne ne).trans e)⟩⟩
theorem Rel.hold {h : MH} (R : Rel K r w h H) {p : Addr} {o : HO} (hp : H p = none) : Rel K r (p :: w) h (upd H p o) :=
  ⟨R.len, R.nd, fun n a c hn hc => (R.at_ n a c hn hc).map (Stp.hold R hp) (by
    obtain ⟨u, e⟩ := R.there (List.mem_of_getElem? hn)
    exact upd_ne (ne_of_none e hp)), fun d hd => by
    rcases List.mem_cons.mp hd with rfl | hd
    · exact ⟨R.nin hp, o, upd_same⟩
    · obtain ⟨n, u, e⟩ := R.wh d hd
      exact ⟨n, u, (upd_ne (ne_of_none e hp)).trans e⟩⟩
/-- what was withheld is let go -/
theorem Stp.drop {p : Addr} : Stp r (p :: w) H r w H := ⟨fun _ _ h => h, fun a o n e => ⟨⟨n.1, fun z => n.2 (List.mem_cons_of_mem _ z)⟩, .inl e⟩⟩
theorem Rel.drop {h : MH} {p : Addr} (R : Rel K r (p :: w) h H) : Rel K r w h H :=
  ⟨R.len, R.nd, fun n a c hn hc => (R.at_ n a c hn hc).map Stp.drop rfl, fun d hd => R.wh d (List.mem_cons_of_mem _ hd)⟩
/-- what was withheld becomes a cell -/
theorem Stp.cell {p : Addr} : Stp r (p :: w) H (r ++ [p]) w H :=
  ⟨fun n a h => by rw [List.getElem?_append_left (List.getElem?_eq_some_iff.mp h).1]; exact h, fun a o n e => ⟨⟨fun hm => by
    rcases List.mem_append.mp hm with z | z
    · exact n.1 z
    · exact n.2 (by rw [List.mem_singleton.mp z]; exact List.mem_cons_self), fun z => n.2 (List.mem_cons_of_mem _ z)⟩, .inl e⟩⟩
theorem Rel.cell {h : MH} {p : Addr} {c : MC} (R : Rel K r (p :: w) h H) (np : p ∉ w) (hc : CRel K r (p :: w) H p c) : Rel K (r ++ [p]) w (h ++ [c]) H := by
  have hpr : p ∉ r := (R.wh p List.mem_cons_self).1
  refine ⟨by simp [R.len], ?_, fun n a c' hn hc' => ?_, fun d hd => ?_⟩
  · exact List.nodup_append.mpr ⟨R.nd, by simp, fun a ha b hb => by rw [List.mem_singleton.mp hb]; rintro rfl; exact hpr ha⟩
  · by_cases hl : n < r.length
    · rw [List.getElem?_append_left hl] at hn
      rw [List.getElem?_append_left (by rw [← R.len]; exact hl)] at hc'
      exact (R.at_ n a c' hn hc').map Stp.cell rfl
    · have e1 : n = r.length := by
        have := (List.getElem?_eq_some_iff.mp hn).1
        rw [List.length_append] at this
        simp at this
        omega
      subst e1
      rw [List.getElem?_append_right (Nat.le_refl _)] at hn
      rw [R.len, List.getElem?_append_right (Nat.le_refl _)] at hc'
      simp at hn hc'
      subst hn hc'
      exact hc.map Stp.cell rfl
  · obtain ⟨n, u⟩ := R.wh d (List.mem_cons_of_mem _ hd)
    refine ⟨fun hm => ?_, u⟩
    rcases List.mem_append.mp hm with z | z
    · exact n z
    · exact np (by rw [← List.mem_singleton.mp z]; exact hd)
/-- a cell is written -/
theorem Fwd.put {n : Nat} {a : Addr} (hn : r[n]? = some a) (o : HO) (nf : ∀ ob u, H a ≠ some (.frz ob u)) : Fwd r H r (upd H a o) :=
  ⟨⟨[], by simp, fun _ h => nomatch h⟩, fun b u nb e => by
    rw [upd_ne (fun z => nb (by rw [z]; exact List.mem_of_getElem? hn))]; exact e, fun b ob u e => by
    rw [upd_ne (fun z => nf ob u (by rw [← z]; exact e))]; exact e⟩
theorem Stp.put {n : Nat} {a : Addr} (hn : r[n]? = some a) (o : HO) : Stp r w H r w (upd H a o) :=
  ⟨fun _ _ h => h, fun b u nb e => ⟨nb, .inl (by rw [upd_ne (fun z => nb.1 (by rw [z]; exact List.mem_of_getElem? hn))]; exact e)⟩⟩
theorem Rel.put {h : MH} (R : Rel K r w h H) {n : Nat} {a : Addr} {o : HO} {c : MC} (hn : r[n]? = some a) (hc : CRel K r w (upd H a o) a c) : Rel K r w (h.set n c) (upd H a o) := by
  refine ⟨by simp [R.len], R.nd, fun m b c' hm hc' => ?_, fun d hd => ?_⟩
  · by_cases e : m = n
    · subst e
      rw [hn] at hm
      have hl : m < h.length := by rw [← R.len]; exact (List.getElem?_eq_some_iff.mp hn).1
      rw [List.getElem?_set_self hl] at hc'
      cases hm; cases hc'
      exact hc
    · rw [List.getElem?_set_ne (Ne.symm e)] at hc'
      refine (R.at_ m b c' hm hc').map (Stp.put hn o) (upd_ne fun z => e ?_)
      subst z
      exact (List.getElem?_inj (List.getElem?_eq_some_iff.mp hm).1 R.nd).mp (hm.trans hn.symm)
  · obtain ⟨n', u, e⟩ := R.wh d hd
    exact ⟨n', u, (upd_ne fun z => n' (by rw [z]; exact List.mem_of_getElem? hn)).trans e⟩
theorem VRs.length : ∀ {xs : List MV} {us : List V}, VRs K r w H xs us → xs.length = us.length
  | [], us, h => by simp only [VRs] at h; subst h; rfl
  | x :: xs, us, h => by
    simp only [VRs] at h
    obtain ⟨u, t, rfl, _, q⟩ := h
    simp [VRs.length q]
theorem VRs.get : ∀ {xs : List MV} {us : List V} {i : Nat} {x : MV}, VRs K r w H xs us → xs[i]? = some x → ∃ u, us[i]? = some u ∧ VR K r w H x u
  | [], us, i, x, h, e => by simp at e
  | y :: xs, us, 0, x, h, e => by
    simp only [VRs] at h
    obtain ⟨u, t, rfl, q, _⟩ := h
    simp at e; subst e
    exact ⟨u, rfl, q⟩
  | y :: xs, us, i + 1, x, h, e => by
    simp only [VRs] at h
    obtain ⟨u, t, rfl, _, q⟩ := h
    obtain ⟨w, e1, e2⟩ := VRs.get (i := i) q (by simpa using e)
    exact ⟨w, by simpa using e1, e2⟩
theorem VRs.back : ∀ {xs : List MV} {us : List V} {i : Nat} {u : V}, VRs K r w H xs us → us[i]? = some u → ∃ x, xs[i]? = some x ∧ VR K r w H x u
  | [], us, i, x, h, e => by simp only [VRs] at h; subst h; simp at e
  | y :: xs, us, 0, x, h, e => by
    simp only [VRs] at h
    obtain ⟨u, t, rfl, q, _⟩ := h
    simp at e; subst e
    exact ⟨y, rfl, q⟩
  | y :: xs, us, i + 1, x, h, e => by
    simp only [VRs] at h
    obtain ⟨u, t, rfl, _, q⟩ := h
    obtain ⟨w, e1, e2⟩ := VRs.back (i := i) q (by simpa using e)
    exact ⟨w, by simpa using e1, e2⟩
theorem VRs.append : ∀ {xs ys : List MV} {us ws : List V}, VRs K r w H xs us → VRs K r w H ys ws → VRs K r w H (xs ++ ys) (us ++ ws)
  | [], ys, us, ws, h, q => by simp only [VRs] at h; subst h; exact q
  | x :: xs, ys, us, ws, h, q => by
    simp only [VRs] at h
    obtain ⟨u, t, rfl, h1, h2⟩ := h
    simp only [List.cons_append, VRs]
    exact ⟨u, t ++ ws, rfl, h1, VRs.append h2 q⟩
theorem VRs.one {x : MV} {u : V} (h : VR K r w H x u) : VRs K r w H [x] [u] := by
  simp only [VRs]
  exact ⟨u, [], rfl, h, rfl⟩
theorem VRs.drop : ∀ {xs : List MV} {us : List V} (n : Nat), VRs K r w H xs us → VRs K r w H (xs.drop n) (us.drop n)
  | _, _, 0, h => h
  | [], us, n + 1, h => by simp only [VRs] at h; subst h; simp [VRs]
  | x :: xs, us, n + 1, h => by
    simp only [VRs] at h
    obtain ⟨u, t, rfl, _, q⟩ := h
    exact VRs.drop n q
theorem VRs.take : ∀ {xs : List MV} {us : List V} (n : Nat), VRs K r w H xs us → VRs K r w H (xs.take n) (us.take n)
  | _, _, 0, h => by simp [VRs]
  | [], us, n + 1, h => by simp only [VRs] at h; subst h; simp [VRs]
  | x :: xs, us, n + 1, h => by
    simp only [VRs] at h
    obtain ⟨u, t, rfl, h1, q⟩ := h
    simp only [List.take_succ_cons, VRs]
    exact ⟨u, t.take n, rfl, h1, VRs.take n q⟩
theorem VRs.eraseIdx : ∀ {xs : List MV} {us : List V} (n : Nat), VRs K r w H xs us → VRs K r w H (xs.eraseIdx n) (us.eraseIdx n)
  | [], us, n, h => by simp only [VRs] at h; subst h; simp [VRs]
  | x :: xs, us, 0, h => by
    simp only [VRs] at h
    obtain ⟨u, t, rfl, _, q⟩ := h
    simpa using q
  | x :: xs, us, n + 1, h => by
    simp only [VRs] at h
    obtain ⟨u, t, rfl, h1, q⟩ := h
    simp only [List.eraseIdx_cons_succ, VRs]
    exact ⟨u, t.eraseIdx n, rfl, h1, VRs.eraseIdx n q⟩
theorem VRs.set : ∀ {xs : List MV} {us : List V} (n : Nat) {x : MV} {u : V}, VRs K r w H xs us → VR K r w H x u → VRs K r w H (xs.set n x) (us.set n u)
  | [], us, n, _, _, h, _ => by simp only [VRs] at h; subst h; simp [VRs]
  | y :: xs, us, 0, x, u, h, hx => by
    simp only [VRs] at h
    obtain ⟨w, t, rfl, _, q⟩ := h
    simp only [List.set_cons_zero, VRs]
    exact ⟨u, t, rfl, hx, q⟩
  | y :: xs, us, n + 1, x, u, h, hx => by
    simp only [VRs] at h
    obtain ⟨w, t, rfl, h1, q⟩ := h
    simp only [List.set_cons_succ, VRs]
    exact ⟨w, t.set n u, rfl, h1, VRs.set n q hx⟩
theorem VRs.dropLast {xs : List MV} {us : List V} (h : VRs K r w H xs us) : VRs K r w H xs.dropLast us.dropLast := by
  rw [List.dropLast_eq_take, List.dropLast_eq_take, ← VRs.length h]
  exact VRs.take _ h
theorem VRs.ints : ∀ (ns : List Int), VRs K r w H (ns.map MV.int) (ns.map V.int)
  | [] => by simp [VRs]
  | n :: ns => by
    simp only [List.map_cons, VRs]
    exact ⟨_, _, rfl, by simp [VR], VRs.ints ns⟩
theorem VRs.at_ {xs : List MV} {us : List V} {i : Int} {x : MV} (h : VRs K r w H xs us) (e : atM xs i = some x) : ∃ u, atI us i = some u ∧ VR K r w H x u := by
  unfold atM at e
  cases q : ixM xs.length i with
  | none => simp [q] at e
  | some j =>
    simp only [q, Option.bind_some] at e
    obtain ⟨u, e1, e2⟩ := VRs.get h e
    refine ⟨u, ?_, e2⟩
    unfold atI
    rw [← VRs.length h]
    show (ixM xs.length i).bind _ = _
    rw [q]
    exact e1
theorem VRk.length : ∀ {xs : List (MK × MV)} {us : List (Key × V)}, VRk K r w H xs us → xs.length = us.length
  | [], us, h => by simp only [VRk] at h; subst h; rfl
  | (k, x) :: xs, us, h => by
    simp only [VRk] at h
    obtain ⟨u, t, rfl, _, q⟩ := h
    simp [VRk.length q]
theorem VRt.length : ∀ {xs : List (List MK × MV)} {us : List (List Key × V)}, VRt K r w H xs us → xs.length = us.length
  | [], us, h => by simp only [VRt] at h; subst h; rfl
  | (k, x) :: xs, us, h => by
    simp only [VRt] at h
    obtain ⟨u, t, rfl, _, q⟩ := h
    simp [VRt.length q]
theorem VRk.keys : ∀ {xs : List (MK × MV)} {us : List (Key × V)}, VRk K r w H xs us → us.map (·.1) = xs.map (·.1)
  | [], us, h => by simp only [VRk] at h; subst h; rfl
  | (k, x) :: xs, us, h => by
    simp only [VRk] at h
    obtain ⟨u, t, rfl, _, q⟩ := h
    simp [VRk.keys q]
theorem VRt.keys : ∀ {xs : List (List MK × MV)} {us : List (List Key × V)}, VRt K r w H xs us → us.map (·.1) = xs.map (·.1)
  | [], us, h => by simp only [VRt] at h; subst h; rfl
  | (k, x) :: xs, us, h => by
    simp only [VRt] at h
    obtain ⟨u, t, rfl, _, q⟩ := h
    simp [VRt.keys q]
/-- what a dict has at a key -/
theorem VRk.get (k : MK) : ∀ {xs : List (MK × MV)} {us : List (Key × V)}, VRk K r w H xs us → (getK xs k = none ∧ valV us k = none) ∨ ∃ x u, getK xs k = some x ∧ valV us k = some u ∧ VR K r w H x u
  | [], us, h => by simp only [VRk] at h; subst h; exact .inl ⟨rfl, rfl⟩
  | (k', x) :: xs, us, h => by
    simp only [VRk] at h
    obtain ⟨u, t, rfl, q1, q⟩ := h
    by_cases e : k' = k
    · subst e
      exact .inr ⟨x, u, by simp [getK], by simp [valV], q1⟩
    · have ih := VRk.get k q
      have e1 : getK ((k', x) :: xs) k = getK xs k := by simp [getK, List.find?_cons, e]
      have e2 : valV ((k', u) :: t) k = valV t k := by simp [valV, List.find?_cons, e]
      rw [e1, e2]
      exact ih
theorem VRt.get (k : List MK) : ∀ {xs : List (List MK × MV)} {us : List (List Key × V)}, VRt K r w H xs us → (getK xs k = none ∧ valV us k = none) ∨ ∃ x u, getK xs k = some x ∧ valV us k = some u ∧ VR K r w H x u
  | [], us, h => by simp only [VRt] at h; subst h; exact .inl ⟨rfl, rfl⟩
  | (k', x) :: xs, us, h => by
    simp only [VRt] at h
    obtain ⟨u, t, rfl, q1, q⟩ := h
    by_cases e : k' = k
    · subst e
      exact .inr ⟨x, u, by simp [getK], by simp [valV], q1⟩
    · have ih := VRt.get k q
      have e1 : getK ((k', x) :: xs) k = getK xs k := by simp [getK, List.find?_cons, e]
      have e2 : valV ((k', u) :: t) k = valV t k := by simp [valV, List.find?_cons, e]
      rw [e1, e2]
      exact ih
theorem VRk.app : ∀ {xs ys : List (MK × MV)} {us ws : List (Key × V)}, VRk K r w H xs us → VRk K r w H ys ws → VRk K r w H (xs ++ ys) (us ++ ws)
  | [], ys, us, ws, h, q => by simp only [VRk] at h; subst h; exact q
  | (k, x) :: xs, ys, us, ws, h, q => by
    simp only [VRk] at h
    obtain ⟨u, t, rfl, h1, h2⟩ := h
    simp only [List.cons_append, VRk]
    exact ⟨u, t ++ ws, rfl, h1, VRk.app h2 q⟩
theorem VRt.app : ∀ {xs ys : List (List MK × MV)} {us ws : List (List Key × V)}, VRt K r w H xs us → VRt K r w H ys ws → VRt K r w H (xs ++ ys) (us ++ ws)
  | [], ys, us, ws, h, q => by simp only [VRt] at h; subst h; exact q
  | (k, x) :: xs, ys, us, ws, h, q => by
    simp only [VRt] at h
    obtain ⟨u, t, rfl, h1, h2⟩ := h
    simp only [List.cons_append, VRt]
    exact ⟨u, t ++ ws, rfl, h1, VRt.app h2 q⟩
theorem VRk.rep (k : MK) {v : MV} {y : V} (hv : VR K r w H v y) : ∀ {xs : List (MK × MV)} {us : List (Key × V)}, VRk K r w H xs us → VRk K r w H (xs.map fun kv => if kv.1 = k then (kv.1, v) else kv) (us.map fun kv => if kv.1 = k then (kv.1, y) else kv)
  | [], us, h => by simp only [VRk] at h; subst h; simp [VRk]
  | (k', x) :: xs, us, h => by
    simp only [VRk] at h
    obtain ⟨u, t, rfl, q1, q⟩ := h
    have ih := VRk.rep k hv q
    by_cases e : k' = k
    · simp only [List.map_cons, e, if_true, VRk]
      exact ⟨y, _, rfl, hv, ih⟩
    · simp only [List.map_cons, e, if_false, VRk]
      exact ⟨u, _, rfl, q1, ih⟩
theorem VRt.rep (k : List MK) {v : MV} {y : V} (hv : VR K r w H v y) : ∀ {xs : List (List MK × MV)} {us : List (List Key × V)}, VRt K r w H xs us → VRt K r w H (xs.map fun kv => if kv.1 = k then (kv.1, v) else kv) (us.map fun kv => if kv.1 = k then (kv.1, y) else kv)
  | [], us, h => by simp only [VRt] at h; subst h; simp [VRt]
  | (k', x) :: xs, us, h => by
    simp only [VRt] at h
    obtain ⟨u, t, rfl, q1, q⟩ := h
    have ih := VRt.rep k hv q
    by_cases e : k' = k
    · simp only [List.map_cons, e, if_true, VRt]
      exact ⟨y, _, rfl, hv, ih⟩
    · simp only [List.map_cons, e, if_false, VRt]
      exact ⟨u, _, rfl, q1, ih⟩
theorem any_map_key {κ α β : Type} [DecidableEq κ] (k : κ) (xs : List (κ × α)) (us : List (κ × β)) (e : us.map (·.1) = xs.map (·.1)) : (us.any fun kv => decide (kv.1 = k)) = xs.any fun kv => decide (kv.1 = k) := by
  have h1 : (us.any fun kv => decide (kv.1 = k)) = (us.map (·.1)).any fun x => decide (x = k) := by rw [List.any_map]; rfl
  have h2 : (xs.any fun kv => decide (kv.1 = k)) = (xs.map (·.1)).any fun x => decide (x = k) := by rw [List.any_map]; rfl
  rw [h1, h2, e]
theorem VRk.put (k : MK) {v : MV} {y : V} (hv : VR K r w H v y) {xs : List (MK × MV)} {us : List (Key × V)} (h : VRk K r w H xs us) : VRk K r w H (putM xs k v) (putK us k y) := by
  unfold putM putK
  rw [any_map_key k xs us (VRk.keys h)]
  split
  · exact VRk.rep k hv h
  · refine VRk.app h ?_
    simp only [VRk]
    exact ⟨y, [], rfl, hv, rfl⟩
theorem VRt.put (k : List MK) {v : MV} {y : V} (hv : VR K r w H v y) {xs : List (List MK × MV)} {us : List (List Key × V)} (h : VRt K r w H xs us) : VRt K r w H (putM xs k v) (putK us k y) := by
  unfold putM putK
  rw [any_map_key k xs us (VRt.keys h)]
  split
  · exact VRt.rep k hv h
  · refine VRt.app h ?_
    simp only [VRt]
    exact ⟨y, [], rfl, hv, rfl⟩
theorem SR.set {s : SM} {z : L2.St} (h : SR K r w H s z) (i : Nat) {v : MV} {u : V} (hv : VR K r w H v u) : SR K r w H (s.set i (some v)) (z.set i (some u)) := by
  refine ⟨by simp [h.1], fun j w e => ?_⟩
  by_cases q : j = i
  · subst q
    have hl : j < s.length := by
      have := (List.getElem?_eq_some_iff.mp e).1
      simpa using this
    rw [List.getElem?_set_self hl] at e
    cases e
    rw [List.getElem?_set_self (by rw [← h.1]; exact hl)]
    exact ⟨u, rfl, hv⟩
  · rw [List.getElem?_set_ne (Ne.symm q)] at e ⊢
    exact h.2 j w e
end
end Ew
end

section
set_option Elab.async false
set_option linter.all false
set_option maxRecDepth 100000
set_option maxHeartbeats 4000000
/-! EwC: the rules of the small machine. -/
namespace Ew
open PySem PySem.Spec PyProof.Rows L2
variable [Tabs]

theorem PE.wk {X : Cx} {e : Expr} {t t' : TE} (h : PE X e t) (w : ∀ z H Q, t' z H Q → t z H Q) : PE X e t' := ⟨fun pins s z H Q I q => h.run pins s z H Q I (w z H Q q)⟩
theorem PT.wk {X : Cx} {e : Expr} {t t' : TT} (h : PT X e t) (w : ∀ z H Q, t' z H Q → t z H Q) : PT X e t' := ⟨fun pins s z H Q I q => h.run pins s z H Q I (w z H Q q)⟩
theorem PW.wk {X : Cx} {e : Expr} {t t' : TT} (h : PW X e t) (w : ∀ z H Q, t' z H Q → t z H Q) : PW X e t' := ⟨fun wh pins s z H Q I q => h.run wh pins s z H Q I (w z H Q q)⟩
theorem PA.wk {X : Cx} {es : List Expr} {t t' : TA} (h : PA X es t) (w : ∀ z H Q, t' z H Q → t z H Q) : PA X es t' := ⟨fun pos pins s z H Q I q => h.run pos pins s z H Q I (w z H Q q)⟩
theorem PS.wk {X : Cx} {st : Stmt} {t t' : TS} (h : PS X st t) (w : ∀ D z H, t' D z H → t D z H) : PS X st t' := ⟨fun pins s z H D I q => h.run pins s z H D I (w D z H q)⟩
theorem PSs.wk {X : Cx} {st : List Stmt} {t t' : TS} (h : PSs X st t) (w : ∀ D z H, t' D z H → t D z H) : PSs X st t' := ⟨fun pins s z H D I q => h.run pins s z H D I (w D z H q)⟩

/-! ### the readings -/
section
variable (K : PySem.W.Frag)
def Cont (r w : List Addr) (h' : MH) (H : Hp) (v : MV) (Q : VK) : Prop := ∀ r' u H', Fwd r H r' H' → Rel K r' w h' H' → VR K r' w H' v u → Q u H'
def ContS (r w : List Addr) (h' : MH) (H : Hp) (s' : SM) (Q : L2.St → Hp → Prop) : Prop := ∀ r' z' H', Fwd r H r' H' → Rel K r' w h' H' → SR K r' w H' s' z' → Q z' H'
def tM (m : XE) : TE := fun z H Q => ∃ r w s h v h', Rel K r w h H ∧ SR K r w H s z ∧ m s h = some (v, h') ∧ Cont K r w h' H v Q
def tT (m : XT) : TT := fun z H Q => ∃ r w s h v h', Rel K r w h H ∧ SR K r w H s z ∧ m s h = some (v, h') ∧ ∀ r' H', Fwd r H r' H' → Rel K r' w h' H' → Q v H'
def tA (m : XA) : TA := fun z H Q => ∃ r w s h vs h', Rel K r w h H ∧ SR K r w H s z ∧ m s h = some (vs, h') ∧ ∀ r' us H', Fwd r H r' H' → Rel K r' w h' H' → VRs K r' w H' vs us → Q us H'
/-- a fresh list or dict at p -/
def VF (r w : List Addr) (H : Hp) (v : MV) (p : Addr) : Prop := match v with
  | .lst xs => ∃ us, H p = some (.lst us) ∧ VRs K r w H xs us
  | .dK kvs => ∃ us, H p = some (.dK us) ∧ VRk K r w H kvs us
  | .dT kvs => ∃ us, H p = some (.dT us) ∧ VRt K r w H kvs us
  | _ => False
def ContF (r w : List Addr) (h' : MH) (H : Hp) (v : MV) (Q : VK) : Prop := ∀ r' p H', Fwd r H r' H' → H p = none → Rel K r' (p :: w) h' H' → VF K r' (p :: w) H' v p → Q (.ref p) H'
def tF (m : XE) : TE := fun z H Q => ∃ r w s h v h', Rel K r w h H ∧ SR K r w H s z ∧ m s h = some (v, h') ∧ ContF K r w h' H v Q
def EndS (r w : List Addr) (h' : MH) (H : Hp) (s' : SM) (D : Ends) : Fl → Prop
  | .nx => ContS K r w h' H s' D.nx
  | .bk => ContS K r w h' H s' D.bk
  | .ct => ContS K r w h' H s' D.ct
  | .rt v => Cont K r w h' H v D.rt
def tS (m : XS) : TS := fun D z H => ∃ r w s h f s' h', Rel K r w h H ∧ SR K r w H s z ∧ m s h = some (f, s', h') ∧ EndS K r w h' H s' D f
def tG (m : XG) : TG := fun u z H Q => ∃ r w s h v s' h', Rel K r w h H ∧ SR K r w H s z ∧ VR K r w H v u ∧ m v s h = some (s', h') ∧ ContS K r w h' H s' Q
def tGs (m : XGs) : TGs := fun us z H Q => ∃ r w s h vs s' h', Rel K r w h H ∧ SR K r w H s z ∧ VRs K r w H vs us ∧ m vs s h = some (s', h') ∧ ContS K r w h' H s' Q
def tO (m : XO) : TO := fun z H Q => ∃ r w s h v h', Rel K r w h H ∧ SR K r w H s z ∧ m s h = some (v, h') ∧ ∀ r' H', Fwd r H r' H' → Rel K r' w h' H' → Q v H'
end
abbrev ME (X : Cx) (e : Expr) (m : XE) : Prop := PE X e (tM X.K m)
abbrev MF (X : Cx) (e : Expr) (m : XE) : Prop := PE X e (tF X.K m)
abbrev MT (X : Cx) (e : Expr) (m : XT) : Prop := PT X e (tT X.K m)
abbrev MW (X : Cx) (e : Expr) (m : XT) : Prop := PW X e (tT X.K m)
structure MA (X : Cx) (es : List Expr) (m : XA) : Prop where
  pa : PA X es (tA X.K m)
  len : ∀ s h vs h', m s h = some (vs, h') → vs.length = es.length
abbrev MS (X : Cx) (st : Stmt) (m : XS) : Prop := PS X st (tS X.K m)
abbrev MSs (X : Cx) (st : List Stmt) (m : XS) : Prop := PSs X st (tS X.K m)
abbrev MG (X : Cx) (e : Expr) (m : XG) : Prop := PG X e (tG X.K m)
abbrev MGs (X : Cx) (es : List Expr) (m : XGs) : Prop := PGs X es (tGs X.K m)
abbrev MO (X : Cx) (e : Option Expr) (m : XO) : Prop := PO X e (tO X.K m)
section
variable {K : PySem.W.Frag} {r r' r1 w : List Addr} {H H' H1 : Hp} {h h' : MH}
theorem Cont.now {v : MV} {Q : VK} {u : V} (C : Cont K r w h H v Q) (R : Rel K r w h H) (q : VR K r w H v u) : Q u H := C r u H (Fwd.refl r H) R q
theorem Cont.fwd {v : MV} {Q : VK} {hh : MH} (C : Cont K r w h' H v Q) (F : Fwd r H r1 H1) (R1 : Rel K r1 w hh H1) : Cont K r1 w h' H1 v Q := fun r' u H' F' R' q => C r' u H' (F.tr R1 F') R' q
theorem ContS.now {s : SM} {Q : L2.St → Hp → Prop} {z : L2.St} (C : ContS K r w h H s Q) (R : Rel K r w h H) (q : SR K r w H s z) : Q z H := C r z H (Fwd.refl r H) R q
theorem ContS.fwd {s : SM} {Q : L2.St → Hp → Prop} {hh : MH} (C : ContS K r w h' H s Q) (F : Fwd r H r1 H1) (R1 : Rel K r1 w hh H1) : ContS K r1 w h' H1 s Q := fun r' u H' F' R' q => C r' u H' (F.tr R1 F') R' q
theorem ContF.fwd {v : MV} {Q : VK} {hh : MH} (C : ContF K r w h' H v Q) (F : Fwd r H r1 H1) (R1 : Rel K r1 w hh H1) : ContF K r1 w h' H1 v Q := fun r' p H' F' n R' q => C r' p H' (F.tr R1 F') (F.free R1 p n) R' q
theorem EndS.fwd {s : SM} {D : Ends} {f : Fl} {hh : MH} (C : EndS K r w h' H s D f) (F : Fwd r H r1 H1) (R1 : Rel K r1 w hh H1) : EndS K r1 w h' H1 s D f := by
  cases f <;> simp only [EndS] at C ⊢
  · exact ContS.fwd C F R1
  · exact Cont.fwd C F R1
  · exact ContS.fwd C F R1
  · exact ContS.fwd C F R1
theorem VF.vr {v : MV} {p : Addr} (R : Rel K r w h H) (np : Out r w p) (q : VF K r w H v p) : VR K r w H v (.ref p) := by
  cases v <;> simp only [VF] at q
  · obtain ⟨us, a, b⟩ := q
    simp only [VR]
    exact ⟨p, us, rfl, np, a, b⟩
  · obtain ⟨us, a, b⟩ := q
    simp only [VR]
    exact ⟨p, us, rfl, np, .inl a, b⟩
  · obtain ⟨us, a, b⟩ := q
    simp only [VR]
    exact ⟨p, us, rfl, np, .inl a, b⟩
theorem VF.map {r' w' : List Addr} (F : Stp r w H r' w' H') {v : MV} {p : Addr} (e : H' p = H p) (q : VF K r w H v p) : VF K r' w' H' v p := by
  cases v <;> simp only [VF] at q ⊢
  · obtain ⟨us, a, b⟩ := q
    exact ⟨us, e.trans a, VRs.map F _ _ b⟩
  · obtain ⟨us, a, b⟩ := q
    exact ⟨us, e.trans a, VRk.map F _ _ b⟩
  · obtain ⟨us, a, b⟩ := q
    exact ⟨us, e.trans a, VRt.map F _ _ b⟩
/-- a fresh list that was just laid -/
theorem ContF.lst {xs : List MV} {us : List V} {p : Addr} {Q : VK} (C : ContF K r w h H (.lst xs) Q) (R : Rel K r w h H) (hp : H p = none) (q : VRs K r w H xs us) : Q (.ref p) (upd H p (.lst us)) :=
  C r p _ (Fwd.new r hp) hp (R.hold hp) (by simp only [VF]; exact ⟨us, upd_same, VRs.map (Stp.hold R hp) _ _ q⟩)
theorem VR.newTup {xs : List MV} {us : List V} {p : Addr} (R : Rel K r w h H) (hp : H p = none) (q : VRs K r w H xs us) : VR K r w (upd H p (.tup us)) (.tup xs) (.ref p) := by
  simp only [VR]
  exact ⟨p, us, rfl, ⟨⟨R.nin hp, R.ninw hp⟩, upd_same⟩, VRs.fwd (Fwd.new r hp) _ _ q⟩
theorem Cont.tup {xs : List MV} {us : List V} {p : Addr} {Q : VK} (C : Cont K r w h H (.tup xs) Q) (R : Rel K r w h H) (hp : H p = none) (q : VRs K r w H xs us) : Q (.ref p) (upd H p (.tup us)) :=
  C r _ _ (Fwd.new r hp) (R.new hp) (VR.newTup R hp q)
theorem VR.newRow {xs : List MV} {us : List V} {p : Addr} {o : Obj} (hc : o.cls = .type "tuple") (hd : o.dict = none) (R : Rel K r w h H) (hp : H p = none) (q : VRs K r w H xs us) : VR K r w (upd H p (.frz o (.tup us))) (.row xs) (.ref p) := by
  simp only [VR]
  exact ⟨p, us, rfl, ⟨⟨R.nin hp, R.ninw hp⟩, o, hc, hd, upd_same⟩, VRs.fwd (Fwd.new r hp) _ _ q⟩
theorem Cont.row {xs : List MV} {us : List V} {p : Addr} {o : Obj} {Q : VK} (C : Cont K r w h H (.row xs) Q) (hc : o.cls = .type "tuple") (hd : o.dict = none) (R : Rel K r w h H) (hp : H p = none) (q : VRs K r w H xs us) : Q (.ref p) (upd H p (.frz o (.tup us))) :=
  C r _ _ (Fwd.new r hp) (R.new hp) (VR.newRow hc hd R hp q)
end

/-! ### expressions -/
section
variable {K : PySem.W.Frag} {X : Cx} {e a b c : Expr} {m ma mb mc : XE} {pos : Pos}
/-- a fresh thing as a value; as a cell -/
theorem MF.me (he : MF X e m) : ME X e m := PE.wk he fun z H Q ⟨r, w, s, h, v, h', R, S, e, C⟩ => ⟨r, w, s, h, v, h', R, S, e, fun r' p H' F n R' q => by
  refine C r' (.ref p) H' F R'.drop (VF.vr R'.drop ⟨(R'.wh p List.mem_cons_self).1, R.ninw n⟩ (VF.map Stp.drop rfl q))⟩
theorem me_box (he : MF X e m) : ME X e (xBox m) := PE.wk he fun z H Q ⟨r, w, s, h, v, h', R, S, e, C⟩ => by
  unfold xBox at e
  cases e1 : m s h with
  | none => simp [e1] at e
  | some p =>
    obtain ⟨y, h1⟩ := p
    simp only [e1] at e
    refine ⟨r, w, s, h, y, h1, R, S, e1, fun r' p H' F n R' q => ?_⟩
    have np : p ∉ w := R.ninw n
    have F2 : Fwd r H (r' ++ [p]) H' := by
      obtain ⟨⟨ps, rfl, hps⟩, k, fz⟩ := F
      exact ⟨⟨ps ++ [p], by simp, fun x hx => by
        rcases List.mem_append.mp hx with hx | hx
        · exact hps x hx
        · rw [List.mem_singleton.mp hx]; exact n⟩, k, fz⟩
    have V : VR X.K (r' ++ [p]) w H' (.ref h1.length) (.ref p) := by
      simp only [VR]
      exact ⟨p, rfl, by rw [← R'.len]; simp⟩
    cases y <;> simp only [VF] at q <;> simp only [boxM, Option.some.injEq, Prod.mk.injEq, reduceCtorEq] at e
    · obtain ⟨rfl, rfl⟩ := e
      exact C (r' ++ [p]) _ H' F2 (R'.cell np (c := .lst _) q) V
    · obtain ⟨rfl, rfl⟩ := e
      exact C (r' ++ [p]) _ H' F2 (R'.cell np (c := .dK _) q) V
    · obtain ⟨rfl, rfl⟩ := e
      exact C (r' ++ [p]) _ H' F2 (R'.cell np (c := .dT _) q) V
theorem me_var {i : Nat} {x : Str} (hN : X.N[i]? = some x := by rfl) (hv : Vis X.env.scope x := by first | exact Or.inl rfl | exact Or.inr (Or.inl rfl) | exact Or.inr (Or.inr rfl)) (hd : (x == ("__debug__" : Str)) = false := by decide +kernel)
    (hcd : (x == ("__classdict__" : Str)) = false := by decide +kernel) : ME X (.Name x pos) (xVar i) := PE.wk (pe_var hN hv hd hcd) fun z H Q ⟨r, w, s, h, v, h', R, S, e, C⟩ => by
  unfold xVar at e
  cases e1 : s[i]? with
  | none => simp [e1] at e
  | some o =>
    cases o with
    | none => simp [e1] at e
    | some y =>
      simp only [e1, Option.some.injEq, Prod.mk.injEq] at e
      obtain ⟨rfl, rfl⟩ := e
      obtain ⟨u, q1, q2⟩ := S.2 i y e1
      exact ⟨u, q1, C.now R q2⟩
theorem me_c {v : MV} {u : V} (he : PE X e (tC u)) (hv : ∀ (r w : List Addr) (H : Hp), VR X.K r w H v u) : ME X e (xC v) := PE.wk he fun z H Q ⟨r, w, s, h, v', h', R, S, e, C⟩ => by
  simp only [xC, Option.some.injEq, Prod.mk.injEq] at e
  obtain ⟨rfl, rfl⟩ := e
  exact C.now R (hv _ _ _)
theorem me_int {i : Int} {j : Nat} : ME X (.Constant (.int i) j pos) (xC (.int i)) := me_c pe_int fun _ _ _ => by simp [VR]
theorem me_bl {k : Bool} {j : Nat} : ME X (.Constant (.bool k) j pos) (xC (.bl k)) := me_c pe_bl fun _ _ _ => by simp [VR]
theorem me_non {j : Nat} : ME X (.Constant .none j pos) (xC .non) := me_c pe_non fun _ _ _ => by simp [VR]
theorem me_str {x : Str} {j : Nat} : ME X (.Constant (.str x) j pos) (xC (.str x)) := me_c pe_str fun _ _ _ => by simp [VR]
/-- a module's number -/
theorem me_globI {x : Str} {i : Int} (hm : ∃ t, X.mg x = some (.int i t)) (hg : Gl X x := by rfl) (hd : (x == ("__debug__" : Str)) = false := by decide +kernel) : ME X (.Name x pos) (xC (.int i)) := by
  obtain ⟨t, hm⟩ := hm
  exact me_c (pe_glob hg hm (v := .int i) ⟨t, rfl⟩ hd) fun _ _ _ => by simp [VR]
/-- two expressions and what is made of their values -/
theorem bin_wk {f : MH → MV → MV → Option MV} {t : R2} (hr : ∀ r w h H x y v u1 u2 Q, Rel K r w h H → VR K r w H x u1 → VR K r w H y u2 → f h x y = some v → Cont K r w h H v Q → t u1 u2 H Q) :
    ∀ z H Q, tM K (xOp f ma mb) z H Q → tOp t (tM K ma) (tM K mb) z H Q := fun z H Q ⟨r, w, s, h, v, h', R, S, e, C⟩ => by
  unfold xOp at e
  cases e1 : ma s h with
  | none => simp [e1] at e
  | some p1 =>
    obtain ⟨x, h1⟩ := p1
    simp only [e1] at e
    cases e2 : mb s h1 with
    | none => simp [e2] at e
    | some p2 =>
      obtain ⟨y, h2⟩ := p2
      simp only [e2] at e
      cases e3 : f h2 x y with
      | none => simp [e3] at e
      | some v' =>
        simp only [e3, Option.some.injEq, Prod.mk.injEq] at e
        obtain ⟨rfl, rfl⟩ := e
        exact ⟨r, w, s, h, x, h1, R, S, e1, fun r1 u1 H1 F1 R1 V1 => ⟨r1, w, s, h1, y, h2, R1, S.fwd F1, e2, fun r2 u2 H2 F2 R2 V2 =>
          hr r2 w h2 H2 x y v' u1 u2 Q R2 (VR.fwd F2 _ _ V1) V2 e3 ((C.fwd F1 R1).fwd F2 R2)⟩⟩
theorem me_op {op : Operator} {f : MH → MV → MV → Option MV} {t : R2} (ho : OpR X (binaryOp op) t) (hr : ∀ r w h H x y v u1 u2 Q, Rel X.K r w h H → VR X.K r w H x u1 → VR X.K r w H y u2 → f h x y = some v → Cont X.K r w h H v Q → t u1 u2 H Q)
    (ha : ME X a ma) (hb : ME X b mb) : ME X (.BinOp a op b pos) (xOp f ma mb) := PE.wk (pe_op ho ha hb) (bin_wk hr)
/-- a truth as a test -/
theorem tB_wk : ∀ z H Q, tT K (xB m) z H Q → tM K m z H fun x H' => ∃ k, x = .bl k ∧ Q k H' := fun z H Q ⟨r, w, s, h, v, h', R, S, e, C⟩ => by
  unfold xB at e
  cases e1 : m s h with
  | none => simp [e1] at e
  | some p =>
    obtain ⟨y, h1⟩ := p
    cases y <;> simp only [e1, reduceCtorEq, Option.some.injEq, Prod.mk.injEq] at e
    obtain ⟨rfl, rfl⟩ := e
    exact ⟨r, w, s, h, _, h1, R, S, e1, fun r' u H' F R' q => by
      simp only [VR] at q
      exact ⟨_, q, C r' H' F R'⟩⟩
theorem c_cmp {op : CmpOp} {f : MH → MV → MV → Option MV} {t : R2} (ho : OpR X (compareOp op) t) (hr : ∀ r w h H x y v u1 u2 Q, Rel X.K r w h H → VR X.K r w H x u1 → VR X.K r w H y u2 → f h x y = some v → Cont X.K r w h H v Q → t u1 u2 H Q)
    (ha : ME X a ma) (hb : ME X b mb) (hm : behindInMarks op b = false) : ME X (.Compare a [op] [b] pos) (xOp f ma mb) ∧ MT X (.Compare a [op] [b] pos) (xB (xOp f ma mb)) :=
  ⟨PE.wk (pe_cmpR ho ha hb hm) (bin_wk hr), PT.wk (pt_cmpR ho ha hb hm) fun z H Q q => bin_wk hr z H _ (tB_wk z H Q q)⟩
/-- any other expression that gives a truth, as a test -/
theorem mt_val (he : ME X e m) (hs : ∀ whole, isTrue e X.env whole = (do let v ← whole; standAt e.pos; holding [v] (truthy v)) := by intro _; rfl) : MT X e (xB m) := PT.wk (pt_val he hs) tB_wk
theorem opAdd_i : ∀ h x y v, opAdd h x y = some v → ∃ i j, x = .int i ∧ y = .int j ∧ v = .int (i + j) := by
  intro h x y v e
  cases x <;> cases y <;> simp [opAdd] at e
  exact ⟨_, _, rfl, rfl, e.symm⟩
theorem opSub_i : ∀ h x y v, opSub h x y = some v → ∃ i j, x = .int i ∧ y = .int j ∧ v = .int (i - j) := by
  intro h x y v e
  cases x <;> cases y <;> simp [opSub] at e
  exact ⟨_, _, rfl, rfl, e.symm⟩
theorem opMul_i : ∀ h x y v, opMul h x y = some v → ∃ i j, x = .int i ∧ y = .int j ∧ CMulW i j ∧ v = .int (i * j) := by
  intro h x y v e
  cases x <;> cases y <;> simp [opMul] at e
  exact ⟨_, _, rfl, rfl, e.1, e.2.symm⟩
theorem opDiv_i : ∀ h x y v, opDiv h x y = some v → ∃ i j, x = .int i ∧ y = .int j ∧ CDivW i j ∧ v = .int (i / j) := by
  intro h x y v e
  cases x <;> cases y <;> simp [opDiv] at e
  exact ⟨_, _, rfl, rfl, e.1, e.2.symm⟩
theorem opMod_i : ∀ h x y v, opMod h x y = some v → ∃ i j, x = .int i ∧ y = .int j ∧ 0 < j ∧ v = .int (i % j) := by
  intro h x y v e
  cases x <;> cases y <;> simp [opMod] at e
  exact ⟨_, _, rfl, rfl, e.1, e.2.symm⟩
theorem opPow_i : ∀ h x y v, opPow h x y = some v → ∃ i j, x = .int i ∧ y = .int j ∧ CPow i j ∧ v = .int (i ^ j.toNat) := by
  intro h x y v e
  cases x <;> cases y <;> simp only [opPow, reduceCtorEq] at e
  split at e
  · rename_i hc
    simp at e
    exact ⟨_, _, rfl, rfl, hc, e.symm⟩
  · cases e
theorem opLt_i : ∀ h x y v, opLt h x y = some v → ∃ i j, x = .int i ∧ y = .int j ∧ v = .bl (decide (i < j)) := by
  intro h x y v e
  cases x <;> cases y <;> simp [opLt] at e
  exact ⟨_, _, rfl, rfl, e.symm⟩
theorem opLe_i : ∀ h x y v, opLe h x y = some v → ∃ i j, x = .int i ∧ y = .int j ∧ v = .bl (decide (i ≤ j)) := by
  intro h x y v e
  cases x <;> cases y <;> simp [opLe] at e
  exact ⟨_, _, rfl, rfl, e.symm⟩
theorem opGt_i : ∀ h x y v, opGt h x y = some v → ∃ i j, x = .int i ∧ y = .int j ∧ v = .bl (decide (j < i)) := by
  intro h x y v e
  cases x <;> cases y <;> simp [opGt] at e
  exact ⟨_, _, rfl, rfl, e.symm⟩
theorem opGe_i : ∀ h x y v, opGe h x y = some v → ∃ i j, x = .int i ∧ y = .int j ∧ v = .bl (decide (j ≤ i)) := by
  intro h x y v e
  cases x <;> cases y <;> simp [opGe] at e
  exact ⟨_, _, rfl, rfl, e.symm⟩
theorem me_add (ha : ME X a ma) (hb : ME X b mb) : ME X (.BinOp a .Add b pos) (xOp opAdd ma mb) := me_op op_add (fun r w h H x y v u1 u2 Q R V1 V2 e C => by
  obtain ⟨i, j, rfl, rfl, rfl⟩ := opAdd_i h x y v e
  simp only [VR] at V1 V2
  exact ⟨i, j, V1, V2, C.now R (by simp [VR])⟩) ha hb
theorem me_sub (ha : ME X a ma) (hb : ME X b mb) : ME X (.BinOp a .Sub b pos) (xOp opSub ma mb) := me_op op_sub (fun r w h H x y v u1 u2 Q R V1 V2 e C => by
  obtain ⟨i, j, rfl, rfl, rfl⟩ := opSub_i h x y v e
  simp only [VR] at V1 V2
  exact ⟨i, j, V1, V2, C.now R (by simp [VR])⟩) ha hb
theorem me_mul (ha : ME X a ma) (hb : ME X b mb) : ME X (.BinOp a .Mult b pos) (xOp opMul ma mb) := me_op op_mulW (fun r w h H x y v u1 u2 Q R V1 V2 e C => by
  obtain ⟨i, j, rfl, rfl, hc, rfl⟩ := opMul_i h x y v e
  simp only [VR] at V1 V2
  exact ⟨i, j, V1, V2, hc, C.now R (by simp [VR])⟩) ha hb
theorem me_div (ha : ME X a ma) (hb : ME X b mb) : ME X (.BinOp a .FloorDiv b pos) (xOp opDiv ma mb) := me_op op_fdivW (fun r w h H x y v u1 u2 Q R V1 V2 e C => by
  obtain ⟨i, j, rfl, rfl, hc, rfl⟩ := opDiv_i h x y v e
  simp only [VR] at V1 V2
  exact ⟨i, j, V1, V2, hc, C.now R (by simp [VR])⟩) ha hb
theorem me_mod (ha : ME X a ma) (hb : ME X b mb) : ME X (.BinOp a .Mod b pos) (xOp opMod ma mb) := me_op op_mod (fun r w h H x y v u1 u2 Q R V1 V2 e C => by
  obtain ⟨i, j, rfl, rfl, hc, rfl⟩ := opMod_i h x y v e
  simp only [VR] at V1 V2
  exact ⟨i, j, V1, V2, hc, C.now R (by simp [VR])⟩) ha hb
theorem me_pow (ha : ME X a ma) (hb : ME X b mb) : ME X (.BinOp a .Pow b pos) (xOp opPow ma mb) := me_op op_pow (fun r w h H x y v u1 u2 Q R V1 V2 e C => by
  obtain ⟨i, j, rfl, rfl, hc, rfl⟩ := opPow_i h x y v e
  simp only [VR] at V1 V2
  exact ⟨i, j, V1, V2, hc, C.now R (by simp [VR])⟩) ha hb
theorem c_lt (ha : ME X a ma) (hb : ME X b mb) : ME X (.Compare a [.Lt] [b] pos) (xOp opLt ma mb) ∧ MT X (.Compare a [.Lt] [b] pos) (xB (xOp opLt ma mb)) := c_cmp op_lt (fun r w h H x y v u1 u2 Q R V1 V2 e C => by
  obtain ⟨i, j, rfl, rfl, rfl⟩ := opLt_i h x y v e
  simp only [VR] at V1 V2
  exact ⟨i, j, V1, V2, C.now R (by simp [VR])⟩) ha hb (nomark _)
theorem c_le (ha : ME X a ma) (hb : ME X b mb) : ME X (.Compare a [.LtE] [b] pos) (xOp opLe ma mb) ∧ MT X (.Compare a [.LtE] [b] pos) (xB (xOp opLe ma mb)) := c_cmp op_le (fun r w h H x y v u1 u2 Q R V1 V2 e C => by
  obtain ⟨i, j, rfl, rfl, rfl⟩ := opLe_i h x y v e
  simp only [VR] at V1 V2
  exact ⟨i, j, V1, V2, C.now R (by simp [VR])⟩) ha hb (nomark _)
theorem c_gt (ha : ME X a ma) (hb : ME X b mb) : ME X (.Compare a [.Gt] [b] pos) (xOp opGt ma mb) ∧ MT X (.Compare a [.Gt] [b] pos) (xB (xOp opGt ma mb)) := c_cmp op_gt (fun r w h H x y v u1 u2 Q R V1 V2 e C => by
  obtain ⟨i, j, rfl, rfl, rfl⟩ := opGt_i h x y v e
  simp only [VR] at V1 V2
  exact ⟨i, j, V1, V2, C.now R (by simp [VR])⟩) ha hb (nomark _)
theorem c_ge (ha : ME X a ma) (hb : ME X b mb) : ME X (.Compare a [.GtE] [b] pos) (xOp opGe ma mb) ∧ MT X (.Compare a [.GtE] [b] pos) (xB (xOp opGe ma mb)) := c_cmp op_ge (fun r w h H x y v u1 u2 Q R V1 V2 e C => by
  obtain ⟨i, j, rfl, rfl, rfl⟩ := opGe_i h x y v e
  simp only [VR] at V1 V2
  exact ⟨i, j, V1, V2, C.now R (by simp [VR])⟩) ha hb (nomark _)
theorem c_isN (ha : ME X a ma) (hb : ME X b mb) : ME X (.Compare a [.Is] [b] pos) (xOp opIsNon ma mb) ∧ MT X (.Compare a [.Is] [b] pos) (xB (xOp opIsNon ma mb)) := c_cmp op_isN (fun r w h H x y v u1 u2 Q R V1 V2 e C => by
  cases y <;> simp only [opIsNon, reduceCtorEq, Option.some.injEq] at e
  subst e
  simp only [VR] at V2
  refine ⟨V2, C.now R ?_⟩
  cases x <;> simp only [VR] at V1 ⊢ <;> first | (subst V1; rfl) | (obtain ⟨p, q⟩ := V1; rw [q.1]; rfl) | (obtain ⟨p, us, q⟩ := V1; rw [q.1]; rfl)) ha hb (nomark _)
theorem c_notN (ha : ME X a ma) (hb : ME X b mb) : ME X (.Compare a [.IsNot] [b] pos) (xOp opNotNon ma mb) ∧ MT X (.Compare a [.IsNot] [b] pos) (xB (xOp opNotNon ma mb)) := c_cmp op_notN (fun r w h H x y v u1 u2 Q R V1 V2 e C => by
  cases y <;> simp only [opNotNon, reduceCtorEq, Option.some.injEq] at e
  subst e
  simp only [VR] at V2
  refine ⟨V2, C.now R ?_⟩
  cases x <;> simp only [VR] at V1 ⊢ <;> first | (subst V1; rfl) | (obtain ⟨p, q⟩ := V1; rw [q.1]; rfl) | (obtain ⟨p, us, q⟩ := V1; rw [q.1]; rfl)) ha hb (nomark _)
end
end Ew
end

section
set_option Elab.async false
set_option linter.all false
set_option maxRecDepth 100000
set_option maxHeartbeats 4000000
/-! EwD: more rules of the small machine. -/
namespace Ew
open PySem PySem.Spec PyProof.Rows L2
variable [Tabs]
theorem PE.or2 {X : Cx} {e : Expr} {t t' : TE} (h : PE X e t) (h' : PE X e t') : PE X e (fun z H Q => t z H Q ∨ t' z H Q) := ⟨fun pins s z H Q I q => q.elim (h.run pins s z H Q I) (h'.run pins s z H Q I)⟩
theorem PT.or2 {X : Cx} {e : Expr} {t t' : TT} (h : PT X e t) (h' : PT X e t') : PT X e (fun z H Q => t z H Q ∨ t' z H Q) := ⟨fun pins s z H Q I q => q.elim (h.run pins s z H Q I) (h'.run pins s z H Q I)⟩
theorem PS.or2 {X : Cx} {e : Stmt} {t t' : TS} (h : PS X e t) (h' : PS X e t') : PS X e (fun D z H => t D z H ∨ t' D z H) := ⟨fun pins s z H D I q => q.elim (h.run pins s z H D I) (h'.run pins s z H D I)⟩
theorem PI.or2 {X : Cx} {tg e : Expr} {t t' : TI} (h : PI X tg e t) (h' : PI X tg e t') : PI X tg e (fun z H Q => t z H Q ∨ t' z H Q) := ⟨fun pins s z H Q I q => q.elim (h.run pins s z H Q I) (h'.run pins s z H Q I)⟩
/-! ### data -/
mutual
def toP : MV → PyData
  | .non => .none
  | .bl b => .bool b
  | .int i => .int i
  | .str x => .str x
  | .tup xs => .tuple (toPs xs)
  | .row xs => .tuple (toPs xs)
  | .lst xs => .list (toPs xs)
  | _ => .none
def toPs : List MV → List PyData
  | [] => []
  | x :: xs => toP x :: toPs xs
end
mutual
theorem toP_can : ∀ (n : Nat) (v : MV), isD n v = true → (toP v).canLay0 = true ∧ (toP v).depth ≤ n
  | n, .non, _ => by simp [toP, PyData.canLay0, PyData.depth]
  | n, .bl b, _ => by simp [toP, PyData.canLay0, PyData.depth]
  | n, .int i, _ => by simp [toP, PyData.canLay0, PyData.depth]
  | n, .str x, h => by
    simp only [isD, strFine, Bool.and_eq_true] at h
    simp only [toP, PyData.canLay0, PyData.strOk, PyData.depth]
    exact ⟨h.1, Nat.zero_le _⟩
  | 0, .tup xs, h => by simp [isD] at h
  | 0, .row xs, h => by simp [isD] at h
  | 0, .lst xs, h => by simp [isD] at h
  | n + 1, .tup xs, h => by
    simp only [isD] at h
    obtain ⟨a, b⟩ := toPs_can n xs h
    simp only [toP, PyData.canLay0, PyData.depth]
    exact ⟨a, by omega⟩
  | n + 1, .row xs, h => by
    simp only [isD] at h
    obtain ⟨a, b⟩ := toPs_can n xs h
    simp only [toP, PyData.canLay0, PyData.depth]
    exact ⟨a, by omega⟩
  | n + 1, .lst xs, h => by
    simp only [isD] at h
    obtain ⟨a, b⟩ := toPs_can n xs h
    simp only [toP, PyData.canLay0, PyData.depth]
    exact ⟨a, by omega⟩
  | n, .scr _, h => by cases n <;> simp [isD] at h
  | n, .dK _, h => by cases n <;> simp [isD] at h
  | n, .dT _, h => by cases n <;> simp [isD] at h
  | n, .ref _, h => by cases n <;> simp [isD] at h
theorem toPs_can : ∀ (n : Nat) (v : List MV), isDs n v = true → PyData.canLayAll0 (toPs v) = true ∧ PyData.depthAll (toPs v) ≤ n
  | n, [], _ => by simp [toPs, PyData.canLayAll0, PyData.depthAll]
  | n, x :: xs, h => by
    simp only [isDs, Bool.and_eq_true] at h
    obtain ⟨a, b⟩ := toP_can n x h.1
    obtain ⟨c, d⟩ := toPs_can n xs h.2
    simp only [toPs, PyData.canLayAll0, PyData.depthAll, Bool.and_eq_true]
    exact ⟨⟨a, c⟩, by omega⟩
end
mutual
theorem toP_eqv : ∀ (x y : MV) (n : Nat), isD n x = true → isD n y = true → PyData.eqv (toP x) (toP y) = eqD x y
  | .tup xs, y, 0, hx, _ => by simp [isD] at hx
  | .row xs, y, 0, hx, _ => by simp [isD] at hx
  | .lst xs, y, 0, hx, _ => by simp [isD] at hx
  | .tup xs, y, n + 1, hx, hy => by
    simp only [isD] at hx
    cases y <;> first | (simp [isD] at hy; done) | skip
    all_goals first
      | (rename_i ys; simp only [isD] at hy; simp only [toP, PyData.eqv, eqD]; exact toPs_eqv xs ys n hx hy)
      | (simp [toP, PyData.eqv, eqD])
  | .row xs, y, n + 1, hx, hy => by
    simp only [isD] at hx
    cases y <;> first | (simp [isD] at hy; done) | skip
    all_goals first
      | (rename_i ys; simp only [isD] at hy; simp only [toP, PyData.eqv, eqD]; exact toPs_eqv xs ys n hx hy)
      | (simp [toP, PyData.eqv, eqD])
  | .lst xs, y, n + 1, hx, hy => by
    simp only [isD] at hx
    cases y <;> first | (simp [isD] at hy; done) | skip
    all_goals first
      | (rename_i ys; simp only [isD] at hy; simp only [toP, PyData.eqv, eqD]; exact toPs_eqv xs ys n hx hy)
      | (simp [toP, PyData.eqv, eqD])
  | .non, y, n, hx, hy => by cases y <;> first | (cases n <;> simp [isD] at hy; done) | simp [toP, PyData.eqv, eqD]
  | .bl _, y, n, hx, hy => by cases y <;> first | (cases n <;> simp [isD] at hy; done) | simp [toP, PyData.eqv, eqD]
  | .int _, y, n, hx, hy => by cases y <;> first | (cases n <;> simp [isD] at hy; done) | simp [toP, PyData.eqv, eqD]
  | .str _, y, n, hx, hy => by cases y <;> first | (cases n <;> simp [isD] at hy; done) | simp [toP, PyData.eqv, eqD]
  | .scr _, y, n, hx, _ => by cases n <;> simp [isD] at hx
  | .dK _, y, n, hx, _ => by cases n <;> simp [isD] at hx
  | .dT _, y, n, hx, _ => by cases n <;> simp [isD] at hx
  | .ref _, y, n, hx, _ => by cases n <;> simp [isD] at hx
theorem toPs_eqv : ∀ (xs ys : List MV) (n : Nat), isDs n xs = true → isDs n ys = true → PyData.eqvAll (toPs xs) (toPs ys) = eqDs xs ys
  | [], [], n, _, _ => by simp [toPs, PyData.eqvAll, eqDs]
  | [], _ :: _, n, _, _ => by simp [toPs, PyData.eqvAll, eqDs]
  | _ :: _, [], n, _, _ => by simp [toPs, PyData.eqvAll, eqDs]
  | x :: xs, y :: ys, n, hx, hy => by
    simp only [isDs, Bool.and_eq_true] at hx hy
    simp only [toPs, PyData.eqvAll, eqDs]
    rw [toP_eqv x y n hx.1 hy.1, toPs_eqv xs ys n hx.2 hy.2]
end
mutual
theorem toP_dp (K : PySem.W.Frag) {r w : List Addr} {H : Hp} : ∀ (v : MV) (u : V) (n : Nat), isD n v = true → VR K r w H v u → Dp K H u (toP v)
  | .non, u, n, _, h => by simp only [VR] at h; subst h; exact Dp.non
  | .bl b, u, n, _, h => by simp only [VR] at h; subst h; exact Dp.bl b
  | .int i, u, n, _, h => by simp only [VR] at h; subst h; exact Dp.int i
  | .str x, u, n, _, h => by simp only [VR] at h; subst h; exact Dp.str x
  | .tup xs, u, 0, hd, h => by simp [isD] at hd
  | .row xs, u, 0, hd, h => by simp [isD] at hd
  | .lst xs, u, 0, hd, h => by simp [isD] at hd
  | .tup xs, u, n + 1, hd, h => by
    simp only [VR] at h
    simp only [isD] at hd
    obtain ⟨a, us, rfl, t, q⟩ := h
    exact Dp.tup t.sq (toPs_dp K xs us n hd q)
  | .row xs, u, n + 1, hd, h => by
    simp only [VR] at h
    simp only [isD] at hd
    obtain ⟨a, us, rfl, t, q⟩ := h
    exact Dp.tup t.sq (toPs_dp K xs us n hd q)
  | .lst xs, u, n + 1, hd, h => by
    simp only [VR] at h
    simp only [isD] at hd
    obtain ⟨a, us, rfl, _, t, q⟩ := h
    exact Dp.lst (.inl (.inl t)) (toPs_dp K xs us n hd q)
  | .scr _, u, n, hx, _ => by cases n <;> simp [isD] at hx
  | .dK _, u, n, hx, _ => by cases n <;> simp [isD] at hx
  | .dT _, u, n, hx, _ => by cases n <;> simp [isD] at hx
  | .ref _, u, n, hx, _ => by cases n <;> simp [isD] at hx
theorem toPs_dp (K : PySem.W.Frag) {r w : List Addr} {H : Hp} : ∀ (v : List MV) (u : List V) (n : Nat), isDs n v = true → VRs K r w H v u → DpAll K H u (toPs v)
  | [], u, n, _, h => by simp only [VRs] at h; subst h; exact DpAll.nil
  | x :: xs, u, n, hd, h => by
    simp only [VRs] at h
    simp only [isDs, Bool.and_eq_true] at hd
    obtain ⟨u, t, rfl, h1, h2⟩ := h
    exact DpAll.cons (toP_dp K x u n hd.1 h1) (toPs_dp K xs t n hd.2 h2)
end
theorem shaped_of {v : MV} (h : isD 60 v = true) : SeqAt.shaped (toP v) = true := by
  obtain ⟨a, b⟩ := toP_can 60 v h
  unfold SeqAt.shaped
  rw [a]
  simp only [Bool.true_and, decide_eq_true_eq]
  omega
theorem rd_dp (K : PySem.W.Frag) {r w : List Addr} {h : MH} {H : Hp} {v : MV} {u : V} (R : Rel K r w h H) (q : VR K r w H v u) (d : isD 60 (rdM h v) = true) : Dp K H u (toP (rdM h v)) := by
  cases v with
  | ref n =>
    simp only [rdM] at d ⊢
    simp only [VR] at q
    obtain ⟨a, rfl, hn⟩ := q
    cases e : h[n]? with
    | none => simp [e, isD] at d
    | some c =>
      have hc := R.at_ n a c hn e
      cases c <;> simp only [e] at d ⊢ <;> first | (simp [isD] at d; done) | skip
      simp only [CRel] at hc
      obtain ⟨us, h1, h2⟩ := hc
      simp only [toP]
      refine Dp.lst (.inl (.inl h1)) ?_
      simp only [isD] at d
      exact toPs_dp K _ _ 59 d h2
  | non => exact toP_dp K _ _ 60 d q
  | bl _ => exact toP_dp K _ _ 60 d q
  | int _ => exact toP_dp K _ _ 60 d q
  | str _ => exact toP_dp K _ _ 60 d q
  | tup _ => exact toP_dp K _ _ 60 d q
  | row _ => exact toP_dp K _ _ 60 d q
  | lst _ => exact toP_dp K _ _ 60 d q
  | scr _ => simp [rdM, isD] at d
  | dK _ => simp [rdM, isD] at d
  | dT _ => simp [rdM, isD] at d
section
variable {K : PySem.W.Frag} {X : Cx} {e a b c : Expr} {m ma mb mc : XE} {pos : Pos} {es : List Expr} {mas : XA}
theorem c_eq {k : Nat} (hr : Room k X.A) (ha : ME X a ma) (hb : ME X b mb) : ME X (.Compare a [.Eq] [b] pos) (xOp opEq0 ma mb) ∧ MT X (.Compare a [.Eq] [b] pos) (xB (xOp opEq0 ma mb)) := c_cmp (op_eqD hr.units) (fun r w h H x y v u1 u2 Q R V1 V2 e C => by
  unfold opEq0 eqM at e
  split at e
  · rename_i d
    rw [Bool.and_eq_true] at d
    simp only [Option.map_some, Option.some.injEq] at e
    subst e
    refine ⟨_, _, rd_dp X.K R V1 d.1, rd_dp X.K R V2 d.2, shaped_of d.1, shaped_of d.2, C.now R ?_⟩
    simp only [VR]
    rw [toP_eqv _ _ 60 d.1 d.2]
  · cases e) ha hb (nomark _)
theorem c_ne {k : Nat} (hr : Room k X.A) (ha : ME X a ma) (hb : ME X b mb) : ME X (.Compare a [.NotEq] [b] pos) (xOp opNe0 ma mb) ∧ MT X (.Compare a [.NotEq] [b] pos) (xB (xOp opNe0 ma mb)) := c_cmp (op_neD hr.units) (fun r w h H x y v u1 u2 Q R V1 V2 e C => by
  unfold opNe0 eqM at e
  split at e
  · rename_i d
    rw [Bool.and_eq_true] at d
    simp only [Option.map_some, Option.some.injEq] at e
    subst e
    refine ⟨_, _, rd_dp X.K R V1 d.1, rd_dp X.K R V2 d.2, shaped_of d.1, shaped_of d.2, C.now R ?_⟩
    simp only [VR]
    rw [toP_eqv _ _ 60 d.1 d.2]
  · cases e) ha hb (nomark _)
/-! ### reading lists, dicts -/
theorem list_sq (K : PySem.W.Frag) {r w : List Addr} {h : MH} {H : Hp} {v : MV} {u : V} {xs : List MV} (R : Rel K r w h H) (q : VR K r w H v u) (e : listOf h v = some xs) : ∃ p us, u = .ref p ∧ SqL K H p us ∧ VRs K r w H xs us := by
  cases v <;> simp only [listOf, reduceCtorEq, Option.some.injEq] at e
  · subst e
    simp only [VR] at q
    obtain ⟨p, us, rfl, _, t, q⟩ := q
    exact ⟨p, us, rfl, .inl (.inl t), q⟩
  · subst e
    simp only [VR] at q
    obtain ⟨p, rfl, t⟩ := q
    rcases t with ⟨_, t⟩ | t
    · exact ⟨p, _, rfl, .inl t, VRs.ints _⟩
    · exact ⟨p, _, rfl, .inr t, VRs.ints _⟩
  · rename_i n
    simp only [VR] at q
    obtain ⟨p, rfl, hn⟩ := q
    cases e1 : h[n]? with
    | none => simp [e1] at e
    | some c =>
      have hc := R.at_ n p c hn e1
      cases c <;> simp only [e1, reduceCtorEq, Option.some.injEq] at e
      subst e
      simp only [CRel] at hc
      obtain ⟨us, h1, h2⟩ := hc
      exact ⟨p, us, rfl, .inl (.inl h1), h2⟩
theorem seq_sq (K : PySem.W.Frag) {r w : List Addr} {h : MH} {H : Hp} {v : MV} {u : V} {xs : List MV} (R : Rel K r w h H) (q : VR K r w H v u) (e : seqOf h v = some xs) : ∃ p us, u = .ref p ∧ (SqL K H p us ∨ SqT K H p us) ∧ VRs K r w H xs us := by
  cases v with
  | tup ys =>
    simp only [seqOf, Option.some.injEq] at e
    subst e
    simp only [VR] at q
    obtain ⟨p, us, rfl, t, q⟩ := q
    exact ⟨p, us, rfl, .inr t.sq, q⟩
  | row ys =>
    simp only [seqOf, Option.some.injEq] at e
    subst e
    simp only [VR] at q
    obtain ⟨p, us, rfl, t, q⟩ := q
    exact ⟨p, us, rfl, .inr t.sq, q⟩
  | _ => exact (fun ⟨p, us, e1, e2, e3⟩ => ⟨p, us, e1, .inl e2, e3⟩) (list_sq K R q (by simpa [seqOf] using e))
theorem dictK_rd {r w : List Addr} {h : MH} {H : Hp} {v : MV} {u : V} {xs : List (MK × MV)} (R : Rel K r w h H) (q : VR K r w H v u) (e : dictK h v = some xs) : ∃ p us, u = .ref p ∧ Rd H p (.dK us) ∧ VRk K r w H xs us := by
  cases v <;> simp only [dictK, reduceCtorEq, Option.some.injEq] at e
  · subst e
    simp only [VR] at q
    obtain ⟨p, us, rfl, _, t, q⟩ := q
    exact ⟨p, us, rfl, t, q⟩
  · rename_i n
    simp only [VR] at q
    obtain ⟨p, rfl, hn⟩ := q
    cases e1 : h[n]? with
    | none => simp [e1] at e
    | some c =>
      have hc := R.at_ n p c hn e1
      cases c <;> simp only [e1, reduceCtorEq, Option.some.injEq] at e
      · subst e
        simp only [CRel] at hc
        obtain ⟨us, h1, h2⟩ := hc
        exact ⟨p, us, rfl, .inl h1, h2⟩
      · subst e
        simp only [CRel] at hc
        obtain ⟨o, us, h1, h2⟩ := hc
        exact ⟨p, us, rfl, .inr ⟨o, h1⟩, h2⟩
theorem dictT_rd {r w : List Addr} {h : MH} {H : Hp} {v : MV} {u : V} {xs : List (List MK × MV)} (R : Rel K r w h H) (q : VR K r w H v u) (e : dictT h v = some xs) : ∃ p us, u = .ref p ∧ Rd H p (.dT us) ∧ VRt K r w H xs us := by
  cases v <;> simp only [dictT, reduceCtorEq, Option.some.injEq] at e
  · subst e
    simp only [VR] at q
    obtain ⟨p, us, rfl, _, t, q⟩ := q
    exact ⟨p, us, rfl, t, q⟩
  · rename_i n
    simp only [VR] at q
    obtain ⟨p, rfl, hn⟩ := q
    cases e1 : h[n]? with
    | none => simp [e1] at e
    | some c =>
      have hc := R.at_ n p c hn e1
      cases c <;> simp only [e1, reduceCtorEq, Option.some.injEq] at e
      · subst e
        simp only [CRel] at hc
        obtain ⟨us, h1, h2⟩ := hc
        exact ⟨p, us, rfl, .inl h1, h2⟩
      · subst e
        simp only [CRel] at hc
        obtain ⟨o, us, h1, h2⟩ := hc
        exact ⟨p, us, rfl, .inr ⟨o, h1⟩, h2⟩
theorem key_kV {r w : List Addr} {H : Hp} {v : MV} {u : V} {k : MK} (q : VR K r w H v u) (e : keyOf v = some k) : u = kV k := by
  cases v <;> simp [keyOf] at e <;> subst e <;> simp only [VR] at q <;> exact q
theorem keys_kV {r w : List Addr} {H : Hp} : ∀ {vs : List MV} {us : List V} {ks : List MK}, VRs K r w H vs us → keysOf vs = some ks → us = ks.map kV
  | [], us, ks, q, e => by
    simp [keysOf] at e; subst e
    simp only [VRs] at q; subst q; rfl
  | v :: vs, us, ks, q, e => by
    simp only [VRs] at q
    obtain ⟨u, t, rfl, q1, q2⟩ := q
    simp only [keysOf] at e
    split at e
    · rename_i k ks' e1 e2
      simp at e; subst e
      rw [key_kV q1 e1, keys_kV q2 e2]; rfl
    · cases e
/-- what a dict has, read -/
theorem look_get {r w : List Addr} {h : MH} {H : Hp} {d k : MV} {u1 u2 : V} {o : Option MV} (R : Rel K r w h H) (V1 : VR K r w H d u1) (V2 : VR K r w H k u2) (e : lookM h d k = some o) :
    ∃ p, u1 = .ref p ∧ ((o = none ∧ DGet H p u2 none) ∨ ∃ x u, o = some x ∧ DGet H p u2 (some u) ∧ VR K r w H x u) := by
  unfold lookM at e
  split at e
  · rename_i ks
    split at e
    · rename_i kvs kk e1 e2
      simp at e; subst e
      obtain ⟨p, us, rfl, h1, h2⟩ := dictT_rd R V1 e1
      simp only [VR] at V2
      obtain ⟨b, ws, rfl, t, q⟩ := V2
      have e3 := keys_kV q e2
      subst e3
      refine ⟨p, rfl, ?_⟩
      rcases VRt.get kk h2 with ⟨g1, g2⟩ | ⟨x, u, g1, g2, g3⟩
      · exact .inl ⟨g1, .inr ⟨us, kk, b, h1, rfl, t.2, g2.symm⟩⟩
      · exact .inr ⟨x, u, g1, .inr ⟨us, kk, b, h1, rfl, t.2, g2.symm⟩, g3⟩
    · cases e
  · split at e
    · rename_i kvs kk e1 e2
      simp at e; subst e
      obtain ⟨p, us, rfl, h1, h2⟩ := dictK_rd R V1 e1
      have e3 := key_kV V2 e2
      subst e3
      refine ⟨p, rfl, ?_⟩
      rcases VRk.get kk h2 with ⟨g1, g2⟩ | ⟨x, u, g1, g2, g3⟩
      · exact .inl ⟨g1, .inl ⟨us, kk, h1, rfl, g2.symm⟩⟩
      · exact .inr ⟨x, u, g1, .inl ⟨us, kk, h1, rfl, g2.symm⟩, g3⟩
    · cases e
theorem flat_of {r w : List Addr} {H : Hp} {v : MV} {u : V} (q : VR K r w H v u) (f : flatM v = true) : flatV u = true := by
  cases v <;> simp [flatM] at f <;> simp only [VR] at q <;> subst q <;> rfl
theorem flats_of {r w : List Addr} {H : Hp} : ∀ {vs : List MV} {us : List V}, VRs K r w H vs us → vs.all flatM = true → us.all flatV = true
  | [], us, q, _ => by simp only [VRs] at q; subst q; rfl
  | v :: vs, us, q, f => by
    simp only [VRs] at q
    obtain ⟨u, t, rfl, q1, q2⟩ := q
    rw [List.all_cons, Bool.and_eq_true] at f ⊢
    exact ⟨flat_of q1 f.1, flats_of q2 f.2⟩
theorem feq_of {r w : List Addr} {H : Hp} {x y : MV} {u v : V} (q1 : VR K r w H x u) (q2 : VR K r w H y v) (f1 : flatM x = true) (f2 : flatM y = true) : eqV v u = feqM y x := by
  cases x <;> simp [flatM] at f1 <;> simp only [VR] at q1 <;> subst q1 <;> cases y <;> simp [flatM] at f2 <;> simp only [VR] at q2 <;> subst q2 <;> rfl
theorem in_of {r w : List Addr} {H : Hp} {x : MV} {u : V} (q1 : VR K r w H x u) (f1 : flatM x = true) : ∀ {vs : List MV} {us : List V}, VRs K r w H vs us → vs.all flatM = true → inV u us = vs.any fun y => feqM y x
  | [], us, q, _ => by simp only [VRs] at q; subst q; rfl
  | v :: vs, us, q, f => by
    simp only [VRs] at q
    obtain ⟨u', t, rfl, q2, q3⟩ := q
    rw [List.all_cons, Bool.and_eq_true] at f
    have ih := in_of q1 f1 q3 f.2
    unfold inV at ih ⊢
    rw [List.any_cons, List.any_cons, ih, feq_of q1 q2 f1 f.1]
theorem xOp_at {f : MH → MV → MV → Option MV} {s : SM} {h h' : MH} {v : MV} (e : xOp f ma mb s h = some (v, h')) : ∃ x h1 y, ma s h = some (x, h1) ∧ mb s h1 = some (y, h') ∧ f h' x y = some v := by
  unfold xOp at e
  cases e1 : ma s h with
  | none => simp [e1] at e
  | some p1 =>
    obtain ⟨x, h1⟩ := p1
    simp only [e1] at e
    cases e2 : mb s h1 with
    | none => simp [e2] at e
    | some p2 =>
      obtain ⟨y, h2⟩ := p2
      simp only [e2] at e
      cases e3 : f h2 x y with
      | none => simp [e3] at e
      | some v' =>
        simp only [e3, Option.some.injEq, Prod.mk.injEq] at e
        obtain ⟨rfl, rfl⟩ := e
        exact ⟨x, h1, y, rfl, e2, e3⟩
/-- two expressions, then R of their values -/
theorem two_at {r w : List Addr} {s : SM} {z : L2.St} {h h1 h2 : MH} {H : Hp} {x y : MV} {T : V → V → Hp → Prop} (R : Rel K r w h H) (S : SR K r w H s z) (e1 : ma s h = some (x, h1)) (e2 : mb s h1 = some (y, h2))
    (k : ∀ r2 u1 u2 H2, Fwd r H r2 H2 → Rel K r2 w h2 H2 → VR K r2 w H2 x u1 → VR K r2 w H2 y u2 → T u1 u2 H2) : tM K ma z H fun u1 H1 => tM K mb z H1 fun u2 H2 => T u1 u2 H2 :=
  ⟨r, w, s, h, x, h1, R, S, e1, fun r1 u1 H1 F1 R1 V1 => ⟨r1, w, s, h1, y, h2, R1, S.fwd F1, e2, fun r2 u2 H2 F2 R2 V2 => k r2 u1 u2 H2 (F1.tr R1 F2) R2 (VR.fwd F2 _ _ V1) V2⟩⟩
theorem c_in {k : Nat} (hr : Room k X.A) (ha : ME X a ma) (hb : ME X b mb) (hm : behindInMarks .In b = false := by rfl) : ME X (.Compare a [.In] [b] pos) (xOp opIn ma mb) ∧ MT X (.Compare a [.In] [b] pos) (xB (xOp opIn ma mb)) := by
  have main : ∀ z H Q, tM X.K (xOp opIn ma mb) z H Q → tOp (rIn X.K false) (tM X.K ma) (tM X.K mb) z H Q ∨ tDIn (tM X.K ma) (tM X.K mb) z H Q := by
   rintro z H Q ⟨r, w, s, h, v, h', R, S, e, C⟩
   obtain ⟨x, h1, y, e1, e2, e3⟩ := xOp_at e
   unfold opIn at e3
   cases e4 : seqOf h' y with
   | some xs =>
     rw [e4] at e3
     refine .inl (two_at R S e1 e2 fun r2 u1 u2 H2 F R2 V1 V2 => ?_)
     obtain ⟨p, us, rfl, sq, q⟩ := seq_sq X.K R2 V2 e4
     simp only [inSeq] at e3
     split at e3
     · rename_i f
       rw [Bool.and_eq_true] at f
       simp only [Option.map_some, Option.some.injEq] at e3
       subst e3
       exact ⟨p, us, rfl, sq, flat_of V1 f.1, flats_of q f.2, C r2 _ H2 F R2 (by simp only [VR, Bool.false_eq_true, if_false]; rw [in_of V1 f.1 q f.2])⟩
     · cases e3
   | none =>
     rw [e4] at e3
     refine .inr (two_at R S e1 e2 fun r2 u1 u2 H2 F R2 V1 V2 => ?_)
     simp only at e3
     cases e5 : lookM h' y x with
     | none => simp [e5] at e3
     | some o =>
       simp only [e5, Option.map_some, Option.some.injEq] at e3
       subst e3
       obtain ⟨p, rfl, g⟩ := look_get R2 V2 V1 e5
       rcases g with ⟨rfl, g⟩ | ⟨x', u, rfl, g, _⟩
       · exact ⟨p, none, rfl, g, C r2 _ H2 F R2 (by simp [VR])⟩
       · exact ⟨p, some u, rfl, g, C r2 _ H2 F R2 (by simp [VR])⟩
  exact ⟨PE.wk (PE.or2 (pe_cmpR op_in_seq ha hb hm) (pe_cmp (pc_din (hu_of hr) ha hb) hm)) main,
    PT.wk (PT.or2 (pt_cmpR op_in_seq ha hb hm) (pt_cmp (pc_din (hu_of hr) ha hb) hm)) fun z H Q q => main z H _ (tB_wk z H Q q)⟩
theorem c_notin {k : Nat} (hr : Room k X.A) (ha : ME X a ma) (hb : ME X b mb) (hm : behindInMarks .NotIn b = false := by rfl) : ME X (.Compare a [.NotIn] [b] pos) (xOp opNotIn ma mb) ∧ MT X (.Compare a [.NotIn] [b] pos) (xB (xOp opNotIn ma mb)) := by
  have main : ∀ z H Q, tM X.K (xOp opNotIn ma mb) z H Q → tOp (rIn X.K true) (tM X.K ma) (tM X.K mb) z H Q ∨ tDNotIn (tM X.K ma) (tM X.K mb) z H Q := by
   rintro z H Q ⟨r, w, s, h, v, h', R, S, e, C⟩
   obtain ⟨x, h1, y, e1, e2, e3⟩ := xOp_at e
   unfold opNotIn at e3
   cases e4 : seqOf h' y with
   | some xs =>
     rw [e4] at e3
     refine .inl (two_at R S e1 e2 fun r2 u1 u2 H2 F R2 V1 V2 => ?_)
     obtain ⟨p, us, rfl, sq, q⟩ := seq_sq X.K R2 V2 e4
     simp only [inSeq] at e3
     split at e3
     · rename_i f
       rw [Bool.and_eq_true] at f
       simp only [Option.map_some, Option.some.injEq] at e3
       subst e3
       exact ⟨p, us, rfl, sq, flat_of V1 f.1, flats_of q f.2, C r2 _ H2 F R2 (by simp only [VR, if_true]; rw [in_of V1 f.1 q f.2])⟩
     · cases e3
   | none =>
     rw [e4] at e3
     refine .inr (two_at R S e1 e2 fun r2 u1 u2 H2 F R2 V1 V2 => ?_)
     simp only at e3
     cases e5 : lookM h' y x with
     | none => simp [e5] at e3
     | some o =>
       simp only [e5, Option.map_some, Option.some.injEq] at e3
       subst e3
       obtain ⟨p, rfl, g⟩ := look_get R2 V2 V1 e5
       rcases g with ⟨rfl, g⟩ | ⟨x', u, rfl, g, _⟩
       · exact ⟨p, none, rfl, g, C r2 _ H2 F R2 (by simp [VR])⟩
       · exact ⟨p, some u, rfl, g, C r2 _ H2 F R2 (by simp [VR])⟩
  exact ⟨PE.wk (PE.or2 (pe_cmpR op_notIn_seq ha hb hm) (pe_cmp (pc_dnotin (hu_of hr) ha hb) hm)) main,
    PT.wk (PT.or2 (pt_cmpR op_notIn_seq ha hb hm) (pt_cmp (pc_dnotin (hu_of hr) ha hb) hm)) fun z H Q q => main z H _ (tB_wk z H Q q)⟩
theorem me_ix {k : Nat} (hr : Room k X.A) (ha : ME X a ma) (hb : ME X b mb) (hs : PlainIx b := by exact fun _ _ => rfl) : ME X (.Subscript a b pos) (xOp opIx ma mb) :=
  PE.wk (PE.or2 (pe_ix (ix_list.or ix_tup) ha hb hs) (pe_dget (hu_of hr) ha hb hs)) fun z H Q ⟨r, w, s, h, v, h', R, S, e, C⟩ => by
  obtain ⟨x, h1, y, e1, e2, e3⟩ := xOp_at e
  unfold opIx at e3
  cases e4 : seqOf h' x with
  | some xs =>
    rw [e4] at e3
    refine .inl (two_at R S e1 e2 fun r2 u1 u2 H2 F R2 V1 V2 => ?_)
    cases y <;> simp only [reduceCtorEq] at e3
    obtain ⟨p, us, rfl, sq, q⟩ := seq_sq X.K R2 V1 e4
    obtain ⟨u, q1, q2⟩ := VRs.at_ q e3
    simp only [VR] at V2
    subst V2
    rcases sq with sq | sq
    · exact .inl ⟨p, us, _, u, rfl, rfl, sq, q1, C r2 u H2 F R2 q2⟩
    · exact .inr ⟨p, us, _, u, rfl, rfl, sq, q1, C r2 u H2 F R2 q2⟩
  | none =>
    rw [e4] at e3
    simp only at e3
    refine .inr (two_at R S e1 e2 fun r2 u1 u2 H2 F R2 V1 V2 => ?_)
    split at e3
    · rename_i v' e5
      simp only [Option.some.injEq] at e3
      subst e3
      obtain ⟨p, rfl, g⟩ := look_get R2 V1 V2 e5
      rcases g with ⟨q, _⟩ | ⟨x', u, q, g, q2⟩
      · cases q
      · cases q
        exact ⟨p, u, rfl, g, C r2 u H2 F R2 q2⟩
    · cases e3
/-! ### arguments, displays, built-ins -/
theorem ma_nil : MA X [] xNil := ⟨PA.wk pa_nil fun z H Q ⟨r, w, s, h, v, h', R, S, e, C⟩ => by
  simp only [xNil, Option.some.injEq, Prod.mk.injEq] at e
  obtain ⟨rfl, rfl⟩ := e
  exact C r [] H (Fwd.refl r H) R (by simp [VRs]), fun s h vs h' e => by
  simp only [xNil, Option.some.injEq, Prod.mk.injEq] at e
  obtain ⟨rfl, rfl⟩ := e
  rfl⟩
theorem xCons_at {s : SM} {h h' : MH} {vs : List MV} (e : xCons ma mas s h = some (vs, h')) : ∃ x h1 xs, ma s h = some (x, h1) ∧ mas s h1 = some (xs, h') ∧ vs = x :: xs := by
  unfold xCons at e
  cases e1 : ma s h with
  | none => simp [e1] at e
  | some p1 =>
    obtain ⟨x, h1⟩ := p1
    simp only [e1] at e
    cases e2 : mas s h1 with
    | none => simp [e2] at e
    | some p2 =>
      obtain ⟨xs, h2⟩ := p2
      simp only [e2, Option.some.injEq, Prod.mk.injEq] at e
      obtain ⟨rfl, rfl⟩ := e
      exact ⟨x, h1, xs, rfl, e2, rfl⟩
theorem ma_cons (ha : ME X e ma) (hb : MA X es mas) (hs : starEach (e :: es) X.env = (false, eval e X.env) :: starEach es X.env := by rfl) : MA X (e :: es) (xCons ma mas) := ⟨PA.wk (pa_cons ha hb.pa hs) fun z H Q ⟨r, w, s, h, v, h', R, S, e, C⟩ => by
  obtain ⟨x, h1, xs, e1, e2, rfl⟩ := xCons_at e
  exact ⟨r, w, s, h, x, h1, R, S, e1, fun r1 u1 H1 F1 R1 V1 => ⟨r1, w, s, h1, xs, h', R1, S.fwd F1, e2, fun r2 us H2 F2 R2 V2 => C r2 _ H2 (F1.tr R1 F2) R2 (by
    simp only [VRs]; exact ⟨u1, us, rfl, VR.fwd F2 _ _ V1, V2⟩)⟩⟩, fun s h vs h' e => by
  obtain ⟨x, h1, xs, e1, e2, rfl⟩ := xCons_at e
  simp [hb.len s h1 xs h' e2]⟩
theorem me_tup {x1} (h : MA X es mas) (hn : es.length ≤ 1000 := by decide) : ME X (.Tuple es x1 pos) (xTup mas) := PE.wk (pe_tup h.pa) fun z H Q ⟨r, w, s, hh, v, h', R, S, e, C⟩ => by
  unfold xTup at e
  cases e1 : mas s hh with
  | none => simp [e1] at e
  | some p1 =>
    obtain ⟨xs, h1⟩ := p1
    simp only [e1, Option.some.injEq, Prod.mk.injEq] at e
    obtain ⟨rfl, rfl⟩ := e
    refine ⟨r, w, s, hh, xs, h1, R, S, e1, fun r1 us H1 F1 R1 V1 => ⟨?_, fun p hp => (C.fwd F1 R1).tup R1 hp V1⟩⟩
    rw [← VRs.length V1, h.len s hh xs h1 e1]
    exact Nat.le_of_lt (small1000 hn)
def tTupR (t : TA) : TE := fun σ H Q => t σ H fun xs H1 => xs.length ≤ sizeLine ∧ ∀ (p : Addr) (o : Obj), o.cls = .type "tuple" → o.dict = none → H1 p = none → Q (.ref p) (upd H1 p (.frz o (.tup xs)))
theorem pe_tupR {t : TA} {x1 : Nat} (h : PA X es t) : PE X (.Tuple es x1 pos) (tTupR t) := by
  refine ⟨fun pins s σ H Q I hq => ?_⟩
  refine wpAny_Tuple_spliced (thn (h.run pos pins s σ H _ I hq) fun us s1 ⟨xs, H1, I1, r, z, q⟩ => ⟨by rw [← r.length]; exact z, ?_⟩)
  have hf : H1 s1.heap.objs.size = none := I1.hok.fresh (Nat.le_refl _)
  refine ⟨.ref s1.heap.objs.size, _, I1.laid (t' := s1.toks) (o := .frz _ (.tup xs)) (fun b u e => Heap.get?_push_of_some _ e) (Nat.le_refl _) ⟨Heap.get?_push_size _ rfl, z, us, r, ⟨_, Heap.get?_push_size _ rfl, rfl, _, rfl⟩⟩, rfl, q _ _ rfl rfl hf⟩
theorem me_tupR {x1} (h : MA X es mas) (hn : es.length ≤ 1000 := by decide) : ME X (.Tuple es x1 pos) (xTupR mas) := PE.wk (pe_tupR h.pa) fun z H Q ⟨r, w, s, hh, v, h', R, S, e, C⟩ => by
  unfold xTupR at e
  cases e1 : mas s hh with
  | none => simp [e1] at e
  | some p1 =>
    obtain ⟨xs, h1⟩ := p1
    simp only [e1, Option.some.injEq, Prod.mk.injEq] at e
    obtain ⟨rfl, rfl⟩ := e
    refine ⟨r, w, s, hh, xs, h1, R, S, e1, fun r1 us H1 F1 R1 V1 => ⟨?_, fun p o hc hd hp => (C.fwd F1 R1).row hc hd R1 hp V1⟩⟩
    rw [← VRs.length V1, h.len s hh xs h1 e1]
    exact Nat.le_of_lt (small1000 hn)
theorem mf_lst (h : MA X es mas) (hn : es.length ≤ 1000 := by decide) : MF X (.List es pos) (xLst mas) := PE.wk (pe_lst h.pa) fun z H Q ⟨r, w, s, hh, v, h', R, S, e, C⟩ => by
  unfold xLst at e
  cases e1 : mas s hh with
  | none => simp [e1] at e
  | some p1 =>
    obtain ⟨xs, h1⟩ := p1
    simp only [e1, Option.some.injEq, Prod.mk.injEq] at e
    obtain ⟨rfl, rfl⟩ := e
    refine ⟨r, w, s, hh, xs, h1, R, S, e1, fun r1 us H1 F1 R1 V1 => ⟨?_, fun p hp => (C.fwd F1 R1).lst R1 hp V1⟩⟩
    rw [← VRs.length V1, h.len s hh xs h1 e1]
    exact Nat.le_of_lt (small1000 hn)
theorem mf_dnewK : MF X (.Dict [] [] pos) (xC (.dK [])) := PE.wk pe_dnewK fun z H Q ⟨r, w, s, hh, v, h', R, S, e, C⟩ p hp => by
  simp only [xC, Option.some.injEq, Prod.mk.injEq] at e
  obtain ⟨rfl, rfl⟩ := e
  exact C r p _ (Fwd.new r hp) hp (R.hold hp) (by simp only [VF]; exact ⟨[], upd_same, by simp [VRk]⟩)
theorem mf_dnewT : MF X (.Dict [] [] pos) (xC (.dT [])) := PE.wk pe_dnewT fun z H Q ⟨r, w, s, hh, v, h', R, S, e, C⟩ p hp => by
  simp only [xC, Option.some.injEq, Prod.mk.injEq] at e
  obtain ⟨rfl, rfl⟩ := e
  exact C r p _ (Fwd.new r hp) hp (R.hold hp) (by simp only [VF]; exact ⟨[], upd_same, by simp [VRt]⟩)
theorem xArgs_at {f : MH → List MV → Option MV} {s : SM} {h h' : MH} {v : MV} (e : xArgs f mas s h = some (v, h')) : ∃ xs, mas s h = some (xs, h') ∧ f h' xs = some v := by
  unfold xArgs at e
  cases e1 : mas s h with
  | none => simp [e1] at e
  | some p1 =>
    obtain ⟨xs, h1⟩ := p1
    simp only [e1] at e
    cases e2 : f h1 xs with
    | none => simp [e2] at e
    | some v' =>
      simp only [e2, Option.some.injEq, Prod.mk.injEq] at e
      obtain ⟨rfl, rfl⟩ := e
      exact ⟨xs, rfl, e2⟩
/-- a built-in function of arguments that changes nothing -/
theorem me_b {id : String} {x : Str} {p : Pos} {f : MH → List MV → Option MV} {t : List V → Hp → VK → Prop} (hc : CallR X (.builtin id) t) (hr : ∀ r w h H xs v us Q, Rel X.K r w h H → VRs X.K r w H xs us → f h xs = some v → Cont X.K r w h H v Q → t us H Q)
    (hv : bootBuiltins x = some (.builtin id)) (hm : X.mg x = none) (ha : MA X (e :: es) mas) (hg : Gl X x := by rfl) (hn : x ≠ "__name__" := by decide +kernel) (hdb : (x == ("__debug__" : Str)) = false := by decide +kernel)
    (he : starEach (e :: es) X.env = (false, eval e X.env) :: starEach es X.env := by rfl) (hpl : (backTo pos (starEach es X.env)).any (·.1) = false := by rfl) : ME X (.Call (.Name x p) (e :: es) [] pos) (xArgs f mas) :=
  PE.wk (pe_callB hc hg hm hv ha.pa hn hdb he hpl) fun z H Q ⟨r, w, s, h, v, h', R, S, e, C⟩ => by
  obtain ⟨xs, e1, e2⟩ := xArgs_at e
  exact ⟨r, w, s, h, xs, h', R, S, e1, fun r1 us H1 F1 R1 V1 => hr r1 w h' H1 xs v us Q R1 V1 e2 (C.fwd F1 R1)⟩
theorem me_t {T : String} {x : Str} {p : Pos} {f : MH → List MV → Option MV} {t : List V → Hp → VK → Prop} (hc : CallR X (.type T) t) (hr : ∀ r w h H xs v us Q, Rel X.K r w h H → VRs X.K r w H xs us → f h xs = some v → Cont X.K r w h H v Q → t us H Q)
    (hv : bootBuiltins x = some (.type T)) (hm : X.mg x = none) (ha : MA X (e :: es) mas) (hg : Gl X x := by rfl) (hn : x ≠ "__name__" := by decide +kernel) (hdb : (x == ("__debug__" : Str)) = false := by decide +kernel)
    (he : starEach (e :: es) X.env = (false, eval e X.env) :: starEach es X.env := by rfl) (hpl : (backTo pos (starEach es X.env)).any (·.1) = false := by rfl) : ME X (.Call (.Name x p) (e :: es) [] pos) (xArgs f mas) :=
  PE.wk (pe_callTy hc hg hm hv ha.pa hn hdb he hpl) fun z H Q ⟨r, w, s, h, v, h', R, S, e, C⟩ => by
  obtain ⟨xs, e1, e2⟩ := xArgs_at e
  exact ⟨r, w, s, h, xs, h', R, S, e1, fun r1 us H1 F1 R1 V1 => hr r1 w h' H1 xs v us Q R1 V1 e2 (C.fwd F1 R1)⟩
theorem mf_t {T : String} {x : Str} {p : Pos} {f : MH → List MV → Option MV} {t : List V → Hp → VK → Prop} (hc : CallR X (.type T) t) (hr : ∀ r w h H xs v us Q, Rel X.K r w h H → VRs X.K r w H xs us → f h xs = some v → ContF X.K r w h H v Q → t us H Q)
    (hv : bootBuiltins x = some (.type T)) (hm : X.mg x = none) (ha : MA X (e :: es) mas) (hg : Gl X x := by rfl) (hn : x ≠ "__name__" := by decide +kernel) (hdb : (x == ("__debug__" : Str)) = false := by decide +kernel)
    (he : starEach (e :: es) X.env = (false, eval e X.env) :: starEach es X.env := by rfl) (hpl : (backTo pos (starEach es X.env)).any (·.1) = false := by rfl) : MF X (.Call (.Name x p) (e :: es) [] pos) (xArgs f mas) :=
  PE.wk (pe_callTy hc hg hm hv ha.pa hn hdb he hpl) fun z H Q ⟨r, w, s, h, v, h', R, S, e, C⟩ => by
  obtain ⟨xs, e1, e2⟩ := xArgs_at e
  exact ⟨r, w, s, h, xs, h', R, S, e1, fun r1 us H1 F1 R1 V1 => hr r1 w h' H1 xs v us Q R1 V1 e2 (C.fwd F1 R1)⟩
theorem vrs1 {r w : List Addr} {H : Hp} {x : MV} {us : List V} (q : VRs K r w H [x] us) : ∃ u, us = [u] ∧ VR K r w H x u := by
  simp only [VRs] at q
  obtain ⟨u, t, rfl, q, rfl⟩ := q
  exact ⟨u, rfl, q⟩
theorem vrs2 {r w : List Addr} {H : Hp} {x y : MV} {us : List V} (q : VRs K r w H [x, y] us) : ∃ u v, us = [u, v] ∧ VR K r w H x u ∧ VR K r w H y v := by
  simp only [VRs] at q
  obtain ⟨u, t, rfl, q, u2, t2, rfl, q2, rfl⟩ := q
  exact ⟨u, u2, rfl, q, q2⟩
theorem me_abs {p : Pos} (hm : X.mg "abs" = none) (ha : MA X (e :: es) mas) (hg : Gl X "abs" := by rfl) (he : starEach (e :: es) X.env = (false, eval e X.env) :: starEach es X.env := by rfl) (hpl : (backTo pos (starEach es X.env)).any (·.1) = false := by rfl) :
    ME X (.Call (.Name "abs" p) (e :: es) [] pos) (xArgs fAbs mas) := me_b call_abs (fun r w h H xs v us Q R V e C => by
  unfold fAbs at e
  split at e
  · simp at e; subst e
    obtain ⟨u, rfl, q⟩ := vrs1 V
    simp only [VR] at q; subst q
    exact ⟨_, rfl, C.now R (by simp only [VR])⟩
  · cases e) (by decide +kernel) hm ha hg (by decide +kernel) (by decide +kernel) he hpl
theorem me_max2 {p : Pos} (hm : X.mg "max" = none) (ha : MA X (e :: es) mas) (hc : X.calm = true := by rfl) (hg : Gl X "max" := by rfl) (he : starEach (e :: es) X.env = (false, eval e X.env) :: starEach es X.env := by rfl) (hpl : (backTo pos (starEach es X.env)).any (·.1) = false := by rfl) :
    ME X (.Call (.Name "max" p) (e :: es) [] pos) (xArgs fMax2 mas) := me_b (call_max2 hc) (fun r w h H xs v us Q R V e C => by
  unfold fMax2 at e
  split at e
  · simp at e; subst e
    obtain ⟨u, u', rfl, q, q'⟩ := vrs2 V
    simp only [VR] at q q'; subst q; subst q'
    exact ⟨_, _, rfl, C.now R (by simp only [VR])⟩
  · cases e) (by decide +kernel) hm ha hg (by decide +kernel) (by decide +kernel) he hpl
theorem me_min2 {p : Pos} (hm : X.mg "min" = none) (ha : MA X (e :: es) mas) (hc : X.calm = true := by rfl) (hg : Gl X "min" := by rfl) (he : starEach (e :: es) X.env = (false, eval e X.env) :: starEach es X.env := by rfl) (hpl : (backTo pos (starEach es X.env)).any (·.1) = false := by rfl) :
    ME X (.Call (.Name "min" p) (e :: es) [] pos) (xArgs fMin2 mas) := me_b (call_min2 hc) (fun r w h H xs v us Q R V e C => by
  unfold fMin2 at e
  split at e
  · simp at e; subst e
    obtain ⟨u, u', rfl, q, q'⟩ := vrs2 V
    simp only [VR] at q q'; subst q; subst q'
    exact ⟨_, _, rfl, C.now R (by simp only [VR])⟩
  · cases e) (by decide +kernel) hm ha hg (by decide +kernel) (by decide +kernel) he hpl
end
end Ew
end

section
set_option Elab.async false
set_option linter.all false
set_option maxRecDepth 100000
set_option maxHeartbeats 4000000
/-! EwE: built-ins, methods, statements, loops, calls. -/
namespace Ew
open PySem PySem.Spec PyProof.Rows L2
variable [Tabs]
section
variable {K : PySem.W.Frag} {X : Cx}
/-- len of a dict with tuple keys, locked or not -/
theorem call_len_dTR : CallR X (.builtin "len") (fun xs H Q => ∃ (p : Addr) (kvs : List (List Key × V)), xs = [.ref p] ∧ Rd H p (.dT kvs) ∧ Q (.int ((kvs.length : Nat) : Int)) H) := by
  intro pins s z H xs us Q I r h
  obtain ⟨p, kvs, rfl, hp, q⟩ := h
  obtain ⟨u, rfl, ru⟩ := vals1 r
  obtain rfl : u = Value.ref p := ru
  obtain ⟨hz, lo, ys, rk, hd⟩ := dt_rd I.hok hp
  have hl : kvs.length = ys.length := Paired.length rk
  refine call_len_dictH lo hd (by rw [sizeLine_eq] at hz; omega) ?_
  exact ⟨.int ((kvs.length : Nat) : Int), H, I.tok _, ⟨_, by rw [hl]⟩, q⟩
theorem call_len_dKR : CallR X (.builtin "len") (fun xs H Q => ∃ (p : Addr) (kvs : List (Key × V)), xs = [.ref p] ∧ Rd H p (.dK kvs) ∧ Q (.int ((kvs.length : Nat) : Int)) H) := by
  intro pins s z H xs us Q I r h
  obtain ⟨a, kvs, rfl, ha, q⟩ := h
  obtain ⟨u, rfl, ru⟩ := vals1 r
  cases ru
  exact d_len I ha fun t s' I' => ⟨.int kvs.length, H, I', ⟨t, rfl⟩, q⟩
end
section
variable {K : PySem.W.Frag} {X : Cx} {e a b c o : Expr} {m ma mb mc mo : XE} {pos p : Pos} {es : List Expr} {mas : XA}
theorem me_len (hm : X.mg "len" = none) (ha : MA X (e :: es) mas) (hg : Gl X "len" := by rfl) (he : starEach (e :: es) X.env = (false, eval e X.env) :: starEach es X.env := by rfl) (hpl : (backTo pos (starEach es X.env)).any (·.1) = false := by rfl) :
    ME X (.Call (.Name "len" p) (e :: es) [] pos) (xArgs fLen mas) := me_b (call_len_seq.or (call_len_dKR.or call_len_dTR)) (fun r w h H xs v us Q R V e C => by
  unfold fLen at e
  split at e
  · rename_i v'
    obtain ⟨u, rfl, q⟩ := vrs1 V
    split at e
    · rename_i ys e1
      simp only [Option.some.injEq] at e; subst e
      obtain ⟨p, ws, rfl, sq, q2⟩ := seq_sq X.K R q e1
      exact .inl ⟨p, ws, rfl, sq, C.now R (by simp only [VR]; rw [VRs.length q2])⟩
    · split at e
      · rename_i kvs e1
        simp only [Option.some.injEq] at e; subst e
        obtain ⟨p, ws, rfl, sq, q2⟩ := dictK_rd R q e1
        exact .inr (.inl ⟨p, ws, rfl, sq, C.now R (by simp only [VR]; rw [VRk.length q2])⟩)
      · split at e
        · rename_i kvs e1
          simp only [Option.some.injEq] at e; subst e
          obtain ⟨p, ws, rfl, sq, q2⟩ := dictT_rd R q e1
          exact .inr (.inr ⟨p, ws, rfl, sq, C.now R (by simp only [VR]; rw [VRt.length q2])⟩)
        · cases e
  · cases e) PySem.boot_len hm ha hg (by decide +kernel) (by decide +kernel) he hpl
theorem mf_list (hm : X.mg "list" = none) (ha : MA X (e :: es) mas) (hg : Gl X "list" := by rfl) (he : starEach (e :: es) X.env = (false, eval e X.env) :: starEach es X.env := by rfl) (hpl : (backTo pos (starEach es X.env)).any (·.1) = false := by rfl) :
    MF X (.Call (.Name "list" p) (e :: es) [] pos) (xArgs fList mas) := mf_t call_list_of (fun r w h H xs v us Q R V e C => by
  unfold fList at e
  split at e
  · rename_i v'
    obtain ⟨u, rfl, q⟩ := vrs1 V
    cases e1 : seqOf h v' with
    | none => simp [e1] at e
    | some ys =>
      simp only [e1, Option.map_some, Option.some.injEq] at e; subst e
      obtain ⟨p, ws, rfl, sq, q2⟩ := seq_sq X.K R q e1
      exact ⟨p, ws, rfl, sq, fun l hl => C.lst R hl q2⟩
  · cases e) (by decide +kernel) hm ha hg (by decide +kernel) (by decide +kernel) he hpl
/-- tuple(list), the object known -/
theorem call_tupleR : CallR X (.type "tuple") (fun xs H Q => ∃ p ys, xs = [.ref p] ∧ ((SqL X.K H p ys ∧ ∀ (l : Addr) (o : Obj), o.cls = .type "tuple" → o.dict = none → H l = none → Q (.ref l) (upd H l (.frz o (.tup ys)))) ∨ (SqT X.K H p ys ∧ Q (.ref p) H))) := by
  intro pins s σ H xs us Q I r h
  obtain ⟨p, ys, rfl, h⟩ := h
  obtain ⟨u, rfl, rx⟩ := vals1 r
  cases rx
  rcases h with ⟨hq, q⟩ | ⟨hq, q⟩
  · obtain ⟨its, r', pl, hz⟩ := I.list hq
    have hlen := r'.length
    refine call_tuple_list pl.isList (fun h' kp => ?_) (by simp only [List.size_toArray] <;> omega)
    have I1 : Inv X pins σ H { s with heap := h' } := I.kept (t' := s.toks) kp
    have I2 : Inv X pins σ (upd H h'.objs.size (.frz { cls := .type "tuple", data := .seq its.toArray } (.tup ys))) { s with heap := h'.push { cls := .type "tuple", data := .seq its.toArray } } :=
      I1.laid (t' := s.toks) (fun b o e => Heap.get?_push_of_some _ e) (Nat.le_refl _) (show ObjOk X.prog X.w _ _ _ (.frz { cls := .type "tuple", data := .seq its.toArray } (.tup ys)) from ⟨Heap.get?_push_size _ rfl, hz, its, r', IsTup.new _ _⟩)
    exact ⟨.ref h'.objs.size, _, I2, rfl, q _ _ rfl rfl (I1.hok.fresh (Nat.le_refl _))⟩
  · obtain ⟨its, r', pl, hz⟩ := I.tuple hq
    exact call_tuple_same pl ⟨.ref p, H, I, rfl, q⟩
theorem me_tuple (hm : X.mg "tuple" = none) (ha : MA X (e :: es) mas) (hg : Gl X "tuple" := by rfl) (he : starEach (e :: es) X.env = (false, eval e X.env) :: starEach es X.env := by rfl) (hpl : (backTo pos (starEach es X.env)).any (·.1) = false := by rfl) :
    ME X (.Call (.Name "tuple" p) (e :: es) [] pos) (xArgs fTuple mas) := me_t call_tupleR (fun r w h H xs v us Q R V e C => by
  unfold fTuple at e
  split at e
  · obtain ⟨u, rfl, q⟩ := vrs1 V
    simp only [Option.some.injEq] at e; subst e
    have q' := q
    simp only [VR] at q'
    obtain ⟨p, ws, rfl, t, q2⟩ := q'
    exact ⟨p, ws, rfl, .inr ⟨t.sq, C.now R q⟩⟩
  · rename_i v' hne
    obtain ⟨u, rfl, q⟩ := vrs1 V
    cases v' with
    | tup ys => exact absurd rfl (hne ys)
    | row ys =>
      simp only [seqOf, Option.map_some, Option.some.injEq] at e; subst e
      have q' := q
      simp only [VR] at q'
      obtain ⟨p, ws, rfl, t, q2⟩ := q'
      exact ⟨p, ws, rfl, .inr ⟨t.sq, C.now R q⟩⟩
    | _ => exact (fun (e1 : (listOf h _).map MV.row = some v) => by
        cases e2 : listOf h _ with
        | none => rw [e2] at e1; cases e1
        | some ys =>
          rw [e2] at e1
          simp only [Option.map_some, Option.some.injEq] at e1; subst e1
          obtain ⟨p, ws, rfl, sq, q2⟩ := list_sq X.K R q e2
          exact ⟨p, ws, rfl, .inl ⟨sq, fun l o hc hd hl => C.row hc hd R hl q2⟩⟩) (by simpa [seqOf] using e)
  · cases e) (by decide +kernel) hm ha hg (by decide +kernel) (by decide +kernel) he hpl
theorem bools_of {r w : List Addr} {H : Hp} : ∀ {vs : List MV} {us : List V} {bs : List Bool}, VRs K r w H vs us → boolsOf vs = some bs → us = bs.map V.bl
  | [], us, bs, q, e => by
    simp [boolsOf] at e; subst e
    simp only [VRs] at q; subst q; rfl
  | v :: vs, us, bs, q, e => by
    simp only [VRs] at q
    obtain ⟨u, t, rfl, q1, q2⟩ := q
    cases v <;> simp only [boolsOf, reduceCtorEq] at e
    cases e2 : boolsOf vs with
    | none => simp [e2] at e
    | some cs =>
      simp only [e2, Option.map_some, Option.some.injEq] at e; subst e
      simp only [VR] at q1
      rw [q1, bools_of q2 e2]; rfl
theorem ints_of {r w : List Addr} {H : Hp} : ∀ {vs : List MV} {us : List V} {bs : List Int}, VRs K r w H vs us → intsOf vs = some bs → us = bs.map V.int
  | [], us, bs, q, e => by
    simp [intsOf] at e; subst e
    simp only [VRs] at q; subst q; rfl
  | v :: vs, us, bs, q, e => by
    simp only [VRs] at q
    obtain ⟨u, t, rfl, q1, q2⟩ := q
    cases v <;> simp only [intsOf, reduceCtorEq] at e
    cases e2 : intsOf vs with
    | none => simp [e2] at e
    | some cs =>
      simp only [e2, Option.map_some, Option.some.injEq] at e; subst e
      simp only [VR] at q1
      rw [q1, ints_of q2 e2]; rfl
theorem me_all (hm : X.mg "all" = none) (ha : MA X (e :: es) mas) (hc : X.calm = true := by rfl) (hg : Gl X "all" := by rfl) (he : starEach (e :: es) X.env = (false, eval e X.env) :: starEach es X.env := by rfl) (hpl : (backTo pos (starEach es X.env)).any (·.1) = false := by rfl) :
    ME X (.Call (.Name "all" p) (e :: es) [] pos) (xArgs fAll mas) := me_b (cr_all hc) (fun r w h H xs v us Q R V e C => by
  unfold fAll at e
  split at e
  · rename_i v'
    obtain ⟨u, rfl, q⟩ := vrs1 V
    split at e
    · rename_i ys e1
      cases e2 : boolsOf ys with
      | none => simp [e2] at e
      | some bs =>
        simp only [e2, Option.map_some, Option.some.injEq] at e; subst e
        obtain ⟨p, ws, rfl, sq, q2⟩ := list_sq X.K R q e1
        have e3 := bools_of q2 e2
        subst e3
        exact ⟨p, bs, rfl, sq, C.now R (by simp only [VR])⟩
    · cases e
  · cases e) (by decide +kernel) hm ha hg (by decide +kernel) (by decide +kernel) he hpl
theorem tyX_of (K : PySem.W.Frag) {r w : List Addr} {h : MH} {H : Hp} {v : MV} {u : V} {t : String} (R : Rel K r w h H) (q : VR K r w H v u) (e : tyN h v = some t) : TyX K H u (.type t) := by
  cases v <;> simp only [tyN, reduceCtorEq, Option.some.injEq] at e
  · subst e; simp only [VR] at q; subst q; exact .base .non
  · subst e; simp only [VR] at q; subst q; exact .base (.bl _)
  · subst e; simp only [VR] at q; subst q; exact .base (.int _)
  · subst e; simp only [VR] at q; subst q; exact .base (.str _)
  · subst e; simp only [VR] at q; obtain ⟨a, us, rfl, t, _⟩ := q; exact .base (.tup t.2)
  · subst e; simp only [VR] at q; obtain ⟨a, us, rfl, _, t, _⟩ := q; exact .base (.lst t)
  · subst e; simp only [VR] at q; obtain ⟨a, rfl, t⟩ := q
    rcases t with ⟨_, t | ⟨o, t⟩⟩ | ⟨o, its, n, t, c, _⟩
    · exact .base (.lst t)
    · exact .base (.frz t)
    · exact .kList t c
  · subst e; simp only [VR] at q; obtain ⟨a, us, rfl, _, t, _⟩ := q
    rcases t with t | ⟨o, t⟩
    · exact .base (.dK t)
    · exact .fDict t
  · rename_i n
    simp only [VR] at q
    obtain ⟨a, rfl, hn⟩ := q
    cases e1 : h[n]? with
    | none => simp [e1] at e
    | some c =>
      have hc := R.at_ n a c hn e1
      cases c <;> simp only [e1, reduceCtorEq, Option.some.injEq] at e <;> subst e <;> simp only [CRel] at hc
      · obtain ⟨us, t, _⟩ := hc; exact .base (.lst t)
      · obtain ⟨us, t, _⟩ := hc; exact .base (.dK t)
      · obtain ⟨us, t, _⟩ := hc; exact .base (.dT t)
      · obtain ⟨o, us, t, _⟩ := hc; exact .fDict t
  · subst e; simp only [VR] at q; obtain ⟨a, us, rfl, ⟨_, o, _, _, t⟩, _⟩ := q; exact .fTuple t
/-- isinstance(e, t), t a built-in type -/
theorem me_isi {t : Str} {tn : String} {p1 p2 : Pos} (hm : X.mg "isinstance" = none) (he : ME X e m) (hm2 : X.mg t = none) (hv2 : bootBuiltins t = some (.type tn)) (hk : ∀ x ∈ ["NoneType", "bool", "int", "str", "tuple", "list", "dict"], kitB x tn = some (subTy x tn))
    (hg : Gl X "isinstance" := by rfl) (hg2 : Gl X t := by rfl) (hn2 : t ≠ "__name__" := by decide +kernel) (hd2 : (t == ("__debug__" : Str)) = false := by decide +kernel)
    (hs : starEach (e :: [.Name t p2]) X.env = (false, eval e X.env) :: starEach [.Name t p2] X.env := by rfl) : ME X (.Call (.Name "isinstance" p1) [e, .Name t p2] [] pos) (xArgs (fIsi tn) (xCons m xNil)) :=
  PE.wk (pe_callB call_isi hg hm (by decide +kernel) (pa_cons he (pa_cons (pe_bltn (v := .ty tn) hg2 hm2 hv2 rfl hn2 hd2) pa_nil) hs) (by decide +kernel) (by decide +kernel) hs) fun z H Q ⟨r, w, s, h, v, h', R, S, e, C⟩ => by
  obtain ⟨xs, e1, e2⟩ := xArgs_at e
  obtain ⟨x, h1, ys, e3, e4, rfl⟩ := xCons_at e1
  simp only [xNil, Option.some.injEq, Prod.mk.injEq] at e4
  obtain ⟨rfl, rfl⟩ := e4
  refine ⟨r, w, s, h, x, h1, R, S, e3, fun r1 u1 H1 F1 R1 V1 => ?_⟩
  simp only [fIsi] at e2
  split at e2
  · rename_i a e5
    simp only [Option.some.injEq] at e2; subst e2
    refine ⟨u1, .ty tn, .type a, .type tn, subTy a tn, rfl, .ty tn, tyX_of X.K R1 V1 e5, kit_ty (hk a ?_), C r1 _ H1 F1 R1 (by simp only [VR])⟩
    unfold tyN at e5
    split at e5 <;> first | (simp only [Option.some.injEq] at e5; subst e5; decide) | cases e5 | skip
    split at e5 <;> first | (simp only [Option.some.injEq] at e5; subst e5; decide) | cases e5
  · cases e2
theorem me_neg (ha : ME X a ma) : ME X (.UnaryOp .USub a pos) (xUn opNeg ma) := PE.wk (pe_un un_neg ha) fun z H Q ⟨r, w, s, h, v, h', R, S, e, C⟩ => by
  unfold xUn at e
  cases e1 : ma s h with
  | none => simp [e1] at e
  | some p1 =>
    obtain ⟨x, h1⟩ := p1
    simp only [e1] at e
    cases x <;> simp only [opNeg, reduceCtorEq, Option.some.injEq, Prod.mk.injEq] at e
    obtain ⟨rfl, rfl⟩ := e
    exact ⟨r, w, s, h, _, h1, R, S, e1, fun r1 u H1 F1 R1 V1 => by
      simp only [VR] at V1
      exact ⟨_, V1, C r1 _ H1 F1 R1 (by simp only [VR])⟩⟩
/-! ### and, or, not, if -/
theorem me_and {rest : List Expr} (ha : ME X a ma) (hb : ME X (.BoolOp .And (b :: rest) pos) mb) : ME X (.BoolOp .And (a :: b :: rest) pos) (xAnd ma mb) := PE.wk (pe_and ha hb) fun z H Q ⟨r, w, s, h, v, h', R, S, e, C⟩ => by
  unfold xAnd at e
  split at e
  · rename_i h1 e1
    exact ⟨r, w, s, h, _, h1, R, S, e1, fun r1 u H1 F1 R1 V1 => by
      simp only [VR] at V1
      exact ⟨true, V1, iteT ⟨r1, w, s, h1, v, h', R1, S.fwd F1, e, C.fwd F1 R1⟩⟩⟩
  · rename_i h1 e1
    simp only [Option.some.injEq, Prod.mk.injEq] at e
    obtain ⟨rfl, rfl⟩ := e
    exact ⟨r, w, s, h, _, h1, R, S, e1, fun r1 u H1 F1 R1 V1 => by
      simp only [VR] at V1
      exact ⟨false, V1, iteF (C r1 _ H1 F1 R1 (by simp only [VR]))⟩⟩
  · cases e
theorem me_or {rest : List Expr} (ha : ME X a ma) (hb : ME X (.BoolOp .Or (b :: rest) pos) mb) : ME X (.BoolOp .Or (a :: b :: rest) pos) (xOr ma mb) := PE.wk (pe_or ha hb) fun z H Q ⟨r, w, s, h, v, h', R, S, e, C⟩ => by
  unfold xOr at e
  split at e
  · rename_i h1 e1
    simp only [Option.some.injEq, Prod.mk.injEq] at e
    obtain ⟨rfl, rfl⟩ := e
    exact ⟨r, w, s, h, _, h1, R, S, e1, fun r1 u H1 F1 R1 V1 => by
      simp only [VR] at V1
      exact ⟨true, V1, iteT (C r1 _ H1 F1 R1 (by simp only [VR]))⟩⟩
  · rename_i h1 e1
    exact ⟨r, w, s, h, _, h1, R, S, e1, fun r1 u H1 F1 R1 V1 => by
      simp only [VR] at V1
      exact ⟨false, V1, iteF ⟨r1, w, s, h1, v, h', R1, S.fwd F1, e, C.fwd F1 R1⟩⟩⟩
  · cases e
theorem me_one {op} (ha : ME X a ma) : ME X (.BoolOp op [a] pos) ma := pe_one ha
theorem me_not (ha : ME X a ma) : ME X (.UnaryOp .Not a pos) (xNot ma) := PE.wk (pe_not ha) fun z H Q ⟨r, w, s, h, v, h', R, S, e, C⟩ => by
  unfold xNot at e
  split at e
  · rename_i k h1 e1
    simp only [Option.some.injEq, Prod.mk.injEq] at e
    obtain ⟨rfl, rfl⟩ := e
    exact ⟨r, w, s, h, _, h1, R, S, e1, fun r1 u H1 F1 R1 V1 => by
      simp only [VR] at V1
      exact ⟨k, V1, C r1 _ H1 F1 R1 (by simp only [VR])⟩⟩
  · cases e
variable {ta tb tc : XT}
theorem me_if (hc : MT X c tc) (ha : ME X a ma) (hb : ME X b mb) : ME X (.IfExp c a b pos) (xIf tc ma mb) := PE.wk (pe_ifExp hc ha hb) fun z H Q ⟨r, w, s, h, v, h', R, S, e, C⟩ => by
  unfold xIf at e
  split at e
  · cases e
  · rename_i h1 e1
    exact ⟨r, w, s, h, _, h1, R, S, e1, fun r1 H1 F1 R1 => iteT ⟨r1, w, s, h1, v, h', R1, S.fwd F1, e, C.fwd F1 R1⟩⟩
  · rename_i h1 e1
    exact ⟨r, w, s, h, _, h1, R, S, e1, fun r1 H1 F1 R1 => iteF ⟨r1, w, s, h1, v, h', R1, S.fwd F1, e, C.fwd F1 R1⟩⟩
theorem mw_and1 (ha : MT X a ta) : MW X (.BoolOp .And [a] pos) ta := pw_and1 ha
theorem mw_or1 (ha : MT X a ta) : MW X (.BoolOp .Or [a] pos) ta := pw_or1 ha
theorem mw_and {rest : List Expr} (ha : MT X a ta) (hb : MW X (.BoolOp .And (b :: rest) pos) tb) : MW X (.BoolOp .And (a :: b :: rest) pos) (xAndT ta tb) := PW.wk (pw_and ha hb) fun z H Q ⟨r, w, s, h, v, h', R, S, e, C⟩ => by
  unfold xAndT at e
  split at e
  · cases e
  · rename_i h1 e1
    exact ⟨r, w, s, h, _, h1, R, S, e1, fun r1 H1 F1 R1 => iteT ⟨r1, w, s, h1, v, h', R1, S.fwd F1, e, fun r2 H2 F2 R2 => C r2 H2 (F1.tr R1 F2) R2⟩⟩
  · rename_i h1 e1
    simp only [Option.some.injEq, Prod.mk.injEq] at e
    obtain ⟨rfl, rfl⟩ := e
    exact ⟨r, w, s, h, _, h1, R, S, e1, fun r1 H1 F1 R1 => iteF (C r1 H1 F1 R1)⟩
theorem mw_or {rest : List Expr} (ha : MT X a ta) (hb : MW X (.BoolOp .Or (b :: rest) pos) tb) : MW X (.BoolOp .Or (a :: b :: rest) pos) (xOrT ta tb) := PW.wk (pw_or ha hb) fun z H Q ⟨r, w, s, h, v, h', R, S, e, C⟩ => by
  unfold xOrT at e
  split at e
  · cases e
  · rename_i h1 e1
    simp only [Option.some.injEq, Prod.mk.injEq] at e
    obtain ⟨rfl, rfl⟩ := e
    exact ⟨r, w, s, h, _, h1, R, S, e1, fun r1 H1 F1 R1 => iteT (C r1 H1 F1 R1)⟩
  · rename_i h1 e1
    exact ⟨r, w, s, h, _, h1, R, S, e1, fun r1 H1 F1 R1 => iteF ⟨r1, w, s, h1, v, h', R1, S.fwd F1, e, fun r2 H2 F2 R2 => C r2 H2 (F1.tr R1 F2) R2⟩⟩
theorem mt_not (ha : MT X a ta) : MT X (.UnaryOp .Not a pos) (xNotT ta) := PT.wk (pt_not ha) fun z H Q ⟨r, w, s, h, v, h', R, S, e, C⟩ => by
  unfold xNotT at e
  cases e1 : ta s h with
  | none => simp [e1] at e
  | some p1 =>
    obtain ⟨k, h1⟩ := p1
    simp only [e1, Option.some.injEq, Prod.mk.injEq] at e
    obtain ⟨rfl, rfl⟩ := e
    exact ⟨r, w, s, h, _, h1, R, S, e1, fun r1 H1 F1 R1 => C r1 H1 F1 R1⟩
/-! ### slices -/
theorem mo_none : MO X none xNoPart := ⟨fun pins s z H Q I ⟨r, w, s', h, v, h', R, S, e, C⟩ => po_none.run pins s z H Q I (by
  simp only [xNoPart, Option.some.injEq, Prod.mk.injEq] at e
  obtain ⟨rfl, rfl⟩ := e
  exact C r H (Fwd.refl r H) R)⟩
theorem mo_some (he : ME X e m) : MO X (some e) (xPart m) := ⟨fun pins s z H Q I ⟨r, w, s', h, v, h', R, S, e, C⟩ => (po_some he).run pins s z H Q I (by
  unfold xPart at e
  split at e
  · rename_i i h1 e1
    simp only [Option.some.injEq, Prod.mk.injEq] at e
    obtain ⟨rfl, rfl⟩ := e
    exact ⟨r, w, s', h, _, h1, R, S, e1, fun r1 u H1 F1 R1 V1 => by
      simp only [VR] at V1
      exact ⟨i, V1, C r1 H1 F1 R1⟩⟩
  · cases e)⟩
theorem mf_slL {lo hi : Option Expr} {ml mh : XO} {p2 : Pos} (he : ME X e m) (hl : MO X lo ml) (hh : MO X hi mh) : MF X (.Subscript e (.Slice lo hi none p2) pos) (xSlL m ml mh) := PE.wk (pe_slice sl_list he hl hh) fun z H Q ⟨r, w, s, h, v, h', R, S, e, C⟩ => by
  unfold xSlL at e
  cases e1 : m s h with
  | none => simp [e1] at e
  | some p1 =>
    obtain ⟨x, h1⟩ := p1
    simp only [e1] at e
    cases e2 : ml s h1 with
    | none => simp [e2] at e
    | some p2 =>
      obtain ⟨l, h2⟩ := p2
      simp only [e2] at e
      cases e3 : mh s h2 with
      | none => simp [e3] at e
      | some p3 =>
        obtain ⟨u, h3⟩ := p3
        simp only [e3] at e
        cases e4 : listOf h3 x with
        | none => simp [e4] at e
        | some xs =>
          simp only [e4, Option.some.injEq, Prod.mk.injEq] at e
          obtain ⟨rfl, rfl⟩ := e
          refine ⟨r, w, s, h, x, h1, R, S, e1, fun r1 u1 H1 F1 R1 V1 => ⟨r1, w, s, h1, l, h2, R1, S.fwd F1, e2, fun r2 H2 F2 R2 => ⟨r2, w, s, h2, u, h3, R2, (S.fwd F1).fwd F2, e3, fun r3 H3 F3 R3 => ?_⟩⟩⟩
          obtain ⟨p, us, rfl, sq, q⟩ := list_sq X.K R3 (VR.fwd F3 _ _ (VR.fwd F2 _ _ V1)) e4
          refine ⟨p, us, rfl, sq, fun l' hl' => (((C.fwd F1 R1).fwd F2 R2).fwd F3 R3).lst R3 hl' ?_⟩
          show VRs X.K r3 w H3 (cutM xs l u) (cutV us l u)
          unfold cutM cutV
          rw [← VRs.length q]
          exact VRs.take _ (VRs.drop _ q)
/-! ### methods of lists -/
theorem ref_at {r w : List Addr} {h : MH} {H : Hp} {n : Nat} {u : V} {xs : List MV} (R : Rel K r w h H) (q : VR K r w H (.ref n) u) (e : h[n]? = some (.lst xs)) : ∃ a us, u = .ref a ∧ r[n]? = some a ∧ H a = some (.lst us) ∧ VRs K r w H xs us := by
  simp only [VR] at q
  obtain ⟨a, rfl, hn⟩ := q
  have hc := R.at_ n a _ hn e
  simp only [CRel] at hc
  obtain ⟨us, h1, h2⟩ := hc
  exact ⟨a, us, rfl, hn, h1, h2⟩
theorem put_lst {r w : List Addr} {h : MH} {H : Hp} {n : Nat} {a : Addr} {xs : List MV} {us : List V} {v : MV} {u : V} {Q : VK} (R : Rel K r w h H) (hn : r[n]? = some a) (q : VRs K r w H xs us) (hv : VR K r w H v u) (C : Cont K r w (h.set n (.lst xs)) H v Q) (nf : ∀ ob u, H a ≠ some (.frz ob u)) : Q u (upd H a (.lst us)) :=
  C r u _ (Fwd.put hn _ nf) (R.put hn (c := .lst xs) (by simp only [CRel]; exact ⟨us, upd_same, VRs.map (Stp.put hn _) _ _ q⟩)) (VR.map (Stp.put hn _) _ _ hv)
theorem szl : szLine = sizeLine := by rw [sizeLine_eq]; rfl
theorem lst_here {r w : List Addr} {h : MH} {H : Hp} {n : Nat} {u : V} (R : Rel K r w h H) (q : VR K r w H (.ref n) u) (e : isLstC h n = true) : ∃ a us, u = .ref a ∧ H a = some (.lst us) := by
  unfold isLstC at e
  split at e
  · rename_i xs e1
    obtain ⟨a, us, e2, _, e3, _⟩ := ref_at R q e1
    exact ⟨a, us, e2, e3⟩
  · cases e
theorem me_append {apos : Pos} (ho : ME X o mo) (he : ME X e m) (hbase : attributeBase o "append" X.env (eval o X.env) = eval o X.env := by rfl)
    (hfew : ((backTo pos (starEach [e] X.env)).all (fun x => !x.1) && (backToKw pos (keywordEach [] X.env)).all (fun x => x.1.isSome) && decide ([e].length + ([] : List Keyword).length + (if ([] : List Keyword).isEmpty then 0 else 1) < 30)) = true := by rfl)
    (hline : (apos.endLine == pos.line) = true := by rfl) (hs : starEach (e :: []) X.env = (false, eval e X.env) :: starEach [] X.env := by rfl) (hpl : (backTo pos (starEach [] X.env)).any (·.1) = false := by rfl) :
    ME X (.Call (.Attribute o "append" apos) [e] [] pos) (xAppend mo m) := PE.wk (pe_bm PySem.F.plainAttrs_list PySem.F.slot_list_append PySem.F.type_list_append mt_append ho (pa_cons he pa_nil hs) hbase hfew hline hs hpl) fun z H Q ⟨r, w, s, h, v, h', R, S, e, C⟩ => by
  unfold xAppend at e
  split at e
  · rename_i n h1 e1
    split at e
    · rename_i hL
      split at e
      · rename_i y h2 e2
        split at e
        · rename_i xs e3
          split at e
          · rename_i hl
            simp only [Option.some.injEq, Prod.mk.injEq] at e
            obtain ⟨rfl, rfl⟩ := e
            refine ⟨r, w, s, h, _, h1, R, S, e1, fun r1 u1 H1 F1 R1 V1 => ?_⟩
            obtain ⟨a, us0, rfl, hL1⟩ := lst_here R1 V1 hL
            refine ⟨.inl ⟨rfl, _, SqL.of hL1⟩, r1, w, s, h1, y, h2, R1, S.fwd F1, e2, fun r2 u2 H2 F2 R2 V2 => ?_⟩
            obtain ⟨a', us, e4, hn2, ha, q⟩ := ref_at R2 (VR.fwd F2 _ _ V1) e3
            cases e4
            refine ⟨a, us, u2, rfl, rfl, ha, ?_, put_lst R2 hn2 (VRs.append q (VRs.one V2)) (by simp only [VR]) ((C.fwd F1 R1).fwd F2 R2) (fun _ _ z => by rw [ha] at z; cases z)⟩
            rw [← VRs.length q, ← szl]; exact hl
          · cases e
        · cases e
      · cases e
    · cases e
  · cases e
theorem me_extend {apos : Pos} (ho : ME X o mo) (he : ME X e m) (hbase : attributeBase o "extend" X.env (eval o X.env) = eval o X.env := by rfl)
    (hfew : ((backTo pos (starEach [e] X.env)).all (fun x => !x.1) && (backToKw pos (keywordEach [] X.env)).all (fun x => x.1.isSome) && decide ([e].length + ([] : List Keyword).length + (if ([] : List Keyword).isEmpty then 0 else 1) < 30)) = true := by rfl)
    (hline : (apos.endLine == pos.line) = true := by rfl) (hs : starEach (e :: []) X.env = (false, eval e X.env) :: starEach [] X.env := by rfl) (hpl : (backTo pos (starEach [] X.env)).any (·.1) = false := by rfl) :
    ME X (.Call (.Attribute o "extend" apos) [e] [] pos) (xExtend mo m) := PE.wk (pe_bm PySem.F.plainAttrs_list PySem.F.slot_list_extend PySem.F.type_list_extend mt_extend ho (pa_cons he pa_nil hs) hbase hfew hline hs hpl) fun z H Q ⟨r, w, s, h, v, h', R, S, e, C⟩ => by
  unfold xExtend at e
  split at e
  · rename_i n h1 e1
    split at e
    · rename_i hL
      split at e
      · rename_i ys h2 e2
        split at e
        · rename_i xs e3
          split at e
          · rename_i hl
            simp only [Option.some.injEq, Prod.mk.injEq] at e
            obtain ⟨rfl, rfl⟩ := e
            refine ⟨r, w, s, h, _, h1, R, S, e1, fun r1 u1 H1 F1 R1 V1 => ?_⟩
            obtain ⟨a, us0, rfl, hL1⟩ := lst_here R1 V1 hL
            refine ⟨.inl ⟨rfl, _, SqL.of hL1⟩, r1, w, s, h1, _, h2, R1, S.fwd F1, e2, fun r2 u2 H2 F2 R2 V2 => ?_⟩
            obtain ⟨a', us, e4, hn2, ha, q⟩ := ref_at R2 (VR.fwd F2 _ _ V1) e3
            cases e4
            simp only [VR] at V2
            obtain ⟨b, ws, rfl, _, hb, q2⟩ := V2
            refine ⟨a, b, us, ws, rfl, rfl, ha, hb, ?_, put_lst R2 hn2 (VRs.append q q2) (by simp only [VR]) ((C.fwd F1 R1).fwd F2 R2) (fun _ _ z => by rw [ha] at z; cases z)⟩
            rw [← VRs.length q, ← VRs.length q2, ← szl]; exact hl
          · cases e
        · cases e
      · cases e
    · cases e
  · cases e
theorem me_pop {apos : Pos} (ho : ME X o mo) (hbase : attributeBase o "pop" X.env (eval o X.env) = eval o X.env := by rfl) (hline : (apos.endLine == pos.line) = true := by rfl) :
    ME X (.Call (.Attribute o "pop" apos) [] [] pos) (xPop mo) := PE.wk (pe_bm0 PySem.F.plainAttrs_list PySem.F.slot_list_pop PySem.F.type_list_pop mt_pop ho hbase hline) fun z H Q ⟨r, w, s, h, v, h', R, S, e, C⟩ => by
  unfold xPop at e
  split at e
  · rename_i n h1 e1
    split at e
    · rename_i xs e2
      split at e
      · rename_i y e3
        simp only [Option.some.injEq, Prod.mk.injEq] at e
        obtain ⟨rfl, rfl⟩ := e
        refine ⟨r, w, s, h, _, h1, R, S, e1, fun r1 u1 H1 F1 R1 V1 => ?_⟩
        obtain ⟨a, us, rfl, hn, ha, q⟩ := ref_at R1 V1 e2
        obtain ⟨u, q1, q2⟩ := VRs.get q e3
        refine ⟨.inl ⟨rfl, _, SqL.of ha⟩, a, us, u, rfl, rfl, ha, by rw [← VRs.length q]; exact q1, put_lst R1 hn (VRs.dropLast q) q2 (C.fwd F1 R1) (fun _ _ z => by rw [ha] at z; cases z)⟩
      · cases e
    · cases e
  · cases e
theorem me_popAt {apos : Pos} (ho : ME X o mo) (he : ME X e m) (hbase : attributeBase o "pop" X.env (eval o X.env) = eval o X.env := by rfl)
    (hfew : ((backTo pos (starEach [e] X.env)).all (fun x => !x.1) && (backToKw pos (keywordEach [] X.env)).all (fun x => x.1.isSome) && decide ([e].length + ([] : List Keyword).length + (if ([] : List Keyword).isEmpty then 0 else 1) < 30)) = true := by rfl)
    (hline : (apos.endLine == pos.line) = true := by rfl) (hs : starEach (e :: []) X.env = (false, eval e X.env) :: starEach [] X.env := by rfl) (hpl : (backTo pos (starEach [] X.env)).any (·.1) = false := by rfl) :
    ME X (.Call (.Attribute o "pop" apos) [e] [] pos) (xPopAt mo m) := PE.wk (pe_bm PySem.F.plainAttrs_list PySem.F.slot_list_pop PySem.F.type_list_pop mt_popAt ho (pa_cons he pa_nil hs) hbase hfew hline hs hpl) fun z H Q ⟨r, w, s, h, v, h', R, S, e, C⟩ => by
  unfold xPopAt at e
  split at e
  · rename_i n h1 e1
    split at e
    · rename_i hL
      split at e
      · rename_i i h2 e2
        split at e
        · rename_i xs e3
          split at e
          · rename_i hl
            split at e
            · rename_i j e4
              split at e
              · rename_i y e5
                simp only [Option.some.injEq, Prod.mk.injEq] at e
                obtain ⟨rfl, rfl⟩ := e
                refine ⟨r, w, s, h, _, h1, R, S, e1, fun r1 u1 H1 F1 R1 V1 => ?_⟩
                obtain ⟨a, us0, rfl, hL1⟩ := lst_here R1 V1 hL
                refine ⟨.inl ⟨rfl, _, SqL.of hL1⟩, r1, w, s, h1, _, h2, R1, S.fwd F1, e2, fun r2 u2 H2 F2 R2 V2 => ?_⟩
                obtain ⟨a', us, e6, hn2, ha, q⟩ := ref_at R2 (VR.fwd F2 _ _ V1) e3
                cases e6
                simp only [VR] at V2
                subst V2
                obtain ⟨u, q1, q2⟩ := VRs.get q e5
                refine ⟨a, us, i, j, u, rfl, rfl, ha, by omega, by omega, ?_, q1, put_lst R2 hn2 (VRs.eraseIdx j q) q2 ((C.fwd F1 R1).fwd F2 R2) (fun _ _ z => by rw [ha] at z; cases z)⟩
                rw [← VRs.length q]
                exact (ixN_seq (show ixN xs.length i = some j from e4)).1
              · cases e
            · cases e
          · cases e
        · cases e
      · cases e
    · cases e
  · cases e
end
end Ew
end

section
set_option Elab.async false
set_option linter.all false
set_option maxRecDepth 100000
set_option maxHeartbeats 4000000
/-! EwF: statements, loops, comprehensions, defs. -/
namespace Ew
open PySem PySem.Spec PyProof.Rows L2
variable [Tabs]
section
variable {K : PySem.W.Frag} {X : Cx} {e a b c o i : Expr} {m ma mb mc mo mi : XE} {pos p : Pos} {es : List Expr} {mas : XA} {st : Stmt} {sts sts2 : List Stmt} {x y : XS} {ta : XT} {g : XG} {gs : XGs} {tg : Expr}
theorem ms_nil : MSs X [] sNext := PSs.wk pss_nil fun D z H ⟨r, w, s, h, f, s', h', R, S, e, C⟩ => by
  simp only [sNext, Option.some.injEq, Prod.mk.injEq] at e
  obtain ⟨rfl, rfl, rfl⟩ := e
  exact ContS.now C R S
theorem ms_pass : MS X (.Pass pos) sNext := PS.wk ps_pass fun D z H ⟨r, w, s, h, f, s', h', R, S, e, C⟩ => by
  simp only [sNext, Option.some.injEq, Prod.mk.injEq] at e
  obtain ⟨rfl, rfl, rfl⟩ := e
  exact ContS.now C R S
theorem ms_doc {t : Str} {j : Nat} {p2 : Pos} : MS X (.Expr (.Constant (.str t) j p2) pos) sNext := PS.wk ps_doc fun D z H ⟨r, w, s, h, f, s', h', R, S, e, C⟩ => by
  simp only [sNext, Option.some.injEq, Prod.mk.injEq] at e
  obtain ⟨rfl, rfl, rfl⟩ := e
  exact ContS.now C R S
theorem ms_one (h : MS X st x) : MSs X [st] x := pss_one h
theorem ms_cons (h1 : MS X st x) (h2 : MSs X sts y) : MSs X (st :: sts) (sSeq x y) := PSs.wk (pss_cons h1 h2) fun D z H ⟨r, w, s, h, f, s', h', R, S, e, C⟩ => by
  unfold sSeq at e
  cases e1 : x s h with
  | none => simp [e1] at e
  | some p1 =>
    obtain ⟨f1, s1, h1⟩ := p1
    cases f1 with
    | nx =>
      simp only [e1] at e
      exact ⟨r, w, s, h, .nx, s1, h1, R, S, e1, fun r1 z1 H1 F1 R1 S1 => ⟨r1, w, s1, h1, f, s', h', R1, S1, e, EndS.fwd C F1 R1⟩⟩
    | rt v =>
      simp only [e1, Option.some.injEq, Prod.mk.injEq] at e
      obtain ⟨rfl, rfl, rfl⟩ := e
      exact ⟨r, w, s, h, .rt v, s1, h1, R, S, e1, C⟩
    | bk =>
      simp only [e1, Option.some.injEq, Prod.mk.injEq] at e
      obtain ⟨rfl, rfl, rfl⟩ := e
      exact ⟨r, w, s, h, .bk, s1, h1, R, S, e1, C⟩
    | ct =>
      simp only [e1, Option.some.injEq, Prod.mk.injEq] at e
      obtain ⟨rfl, rfl, rfl⟩ := e
      exact ⟨r, w, s, h, .ct, s1, h1, R, S, e1, C⟩
theorem ms_bk : MS X (.Break pos) sBk := PS.wk ps_break fun D z H ⟨r, w, s, h, f, s', h', R, S, e, C⟩ => by
  simp only [sBk, Option.some.injEq, Prod.mk.injEq] at e
  obtain ⟨rfl, rfl, rfl⟩ := e
  exact ContS.now C R S
theorem ms_ct : MS X (.Continue pos) sCt := PS.wk ps_continue fun D z H ⟨r, w, s, h, f, s', h', R, S, e, C⟩ => by
  simp only [sCt, Option.some.injEq, Prod.mk.injEq] at e
  obtain ⟨rfl, rfl, rfl⟩ := e
  exact ContS.now C R S
theorem ms_never : MS X st sNever := PS.wk ps_never fun D z H ⟨r, w, s, h, f, s', h', R, S, e, C⟩ => by simp [sNever] at e
theorem ms_expr (he : ME X e m) (hs : swapsWith e none pos.line X.env = pure false := by rfl) : MS X (.Expr e pos) (sExpr m) := PS.wk (ps_expr he hs) fun D z H ⟨r, w, s, h, f, s', h', R, S, e, C⟩ => by
  unfold sExpr at e
  cases e1 : m s h with
  | none => simp [e1] at e
  | some p1 =>
    obtain ⟨v, h1⟩ := p1
    simp only [e1, Option.some.injEq, Prod.mk.injEq] at e
    obtain ⟨rfl, rfl, rfl⟩ := e
    exact ⟨r, w, s, h, v, h1, R, S, e1, fun r1 u H1 F1 R1 V1 => C r1 z H1 F1 R1 (S.fwd F1)⟩
theorem ms_ret (he : ME X e m) : MS X (.Return (some e) pos) (sRet m) := PS.wk (ps_ret he) fun D z H ⟨r, w, s, h, f, s', h', R, S, e, C⟩ => by
  unfold sRet at e
  cases e1 : m s h with
  | none => simp [e1] at e
  | some p1 =>
    obtain ⟨v, h1⟩ := p1
    simp only [e1, Option.some.injEq, Prod.mk.injEq] at e
    obtain ⟨rfl, rfl, rfl⟩ := e
    exact ⟨r, w, s, h, v, h1, R, S, e1, C⟩
theorem ms_retN : MS X (.Return none pos) sRetN := PS.wk ps_retN fun D z H ⟨r, w, s, h, f, s', h', R, S, e, C⟩ => by
  simp only [sRetN, Option.some.injEq, Prod.mk.injEq] at e
  obtain ⟨rfl, rfl, rfl⟩ := e
  exact Cont.now C R (by simp only [VR])
theorem ms_if (hc : MT X c ta) (h1 : MSs X sts x) (h2 : MSs X sts2 y) : MS X (.If c sts sts2 pos) (sIf ta x y) := PS.wk (ps_if hc h1 h2) fun D z H ⟨r, w, s, h, f, s', h', R, S, e, C⟩ => by
  unfold sIf at e
  split at e
  · cases e
  · rename_i h1 e1
    exact ⟨r, w, s, h, _, h1, R, S, e1, fun r1 H1 F1 R1 => iteT ⟨r1, w, s, h1, f, s', h', R1, S.fwd F1, e, EndS.fwd C F1 R1⟩⟩
  · rename_i h1 e1
    exact ⟨r, w, s, h, _, h1, R, S, e1, fun r1 H1 F1 R1 => iteF ⟨r1, w, s, h1, f, s', h', R1, S.fwd F1, e, EndS.fwd C F1 R1⟩⟩
/-! ### targets -/
theorem PG.wk {t t' : TG} (h : PG X e t) (k : ∀ v z H Q, t' v z H Q → t v z H Q) : PG X e t' := ⟨fun pins s z H v u Q I r q => h.run pins s z H v u Q I r (k v z H Q q)⟩
theorem PGs.wk {t t' : TGs} (h : PGs X es t) (k : ∀ v z H Q, t' v z H Q → t v z H Q) : PGs X es t' := ⟨fun pins s z H v u Q I r q => h.run pins s z H v u Q I r (k v z H Q q)⟩
theorem mg_nm {n : Nat} {t : Str} (hN : X.N.Nodup) (hi : X.N[n]? = some t := by rfl) (hx : Loc X.env.scope t := by first | exact .inl rfl | exact .inr rfl) (hf : X.fn t = true ∨ X.env.scope.names.lookup t = some .local := by first | exact .inl rfl | exact .inr rfl) : MG X (.Name t pos) (gNm n) :=
  PG.wk (pg_name hN hi hx hf) fun u z H Q ⟨r, w, s, h, v, s', h', R, S, V, e, C⟩ => by
  simp only [gNm, Option.some.injEq, Prod.mk.injEq] at e
  obtain ⟨rfl, rfl⟩ := e
  exact C.now R (S.set n V)
theorem mgs_nil : MGs X [] gsNil := PGs.wk pgs_nil fun u z H Q ⟨r, w, s, h, v, s', h', R, S, V, e, C⟩ => by
  unfold gsNil at e
  split at e
  · simp only [Option.some.injEq, Prod.mk.injEq] at e
    obtain ⟨rfl, rfl⟩ := e
    simp only [VRs] at V
    exact ⟨V, C.now R S⟩
  · cases e
theorem mgs_cons (h1 : MG X e g) (h2 : MGs X es gs) (hs : (assignEach (e :: es) X.env).map (·.2) = assign e X.env :: (assignEach es X.env).map (·.2) := by rfl) : MGs X (e :: es) (gsCons g gs) := PGs.wk (pgs_cons h1 h2 hs) fun u z H Q ⟨r, w, s, h, v, s', h', R, S, V, e, C⟩ => by
  unfold gsCons at e
  split at e
  · rename_i v1 vs
    cases e1 : g v1 s h with
    | none => simp [e1] at e
    | some p1 =>
      obtain ⟨s1, h1⟩ := p1
      simp only [e1] at e
      simp only [VRs] at V
      obtain ⟨u1, t, rfl, V1, V2⟩ := V
      exact ⟨u1, t, rfl, r, w, s, h, v1, s1, h1, R, S, V1, e1, fun r1 z1 H1 F1 R1 S1 => ⟨r1, w, s1, h1, vs, s', h', R1, S1, VRs.fwd F1 _ _ V2, e, C.fwd F1 R1⟩⟩
  · cases e
theorem mg_tup {k n : Nat} (h : MGs X es gs) (hn : (assignEach es X.env).length = n := by rfl) (hst : (assignEach es X.env).findIdx? (·.1) = none := by rfl) (hc : X.calm = true := by rfl) : MG X (.Tuple es k pos) (gTp n gs) := PG.wk (pg_tup hc h hn hst) fun u z H Q ⟨r, w, s, h, v, s', h', R, S, V, e, C⟩ => by
  unfold gTp at e
  split at e
  · rename_i xs
    split at e
    · rename_i hl
      simp only [VR] at V
      obtain ⟨p, us, rfl, t, q⟩ := V
      exact ⟨p, us, rfl, t.sq, by rw [← VRs.length q]; exact hl, r, w, s, h, xs, s', h', R, S, q, e, C⟩
    · cases e
  · rename_i xs
    split at e
    · rename_i hl
      simp only [VR] at V
      obtain ⟨p, us, rfl, t, q⟩ := V
      exact ⟨p, us, rfl, t.sq, by rw [← VRs.length q]; exact hl, r, w, s, h, xs, s', h', R, S, q, e, C⟩
    · cases e
  · cases e
theorem ms_asg (he : ME X e m) (hg : MG X tg g) (hs : swapsWithSole [tg] e pos.line X.env = pure false := by rfl) (hw : swappedStores [tg] e X.env = pure none := by rfl) (h1 : (assignEach [tg] X.env).map (·.2) = [assign tg X.env] := by rfl) : MS X (.Assign [tg] e pos) (sAsg m g) := PS.wk (ps_asg he hg hs hw h1) fun D z H ⟨r, w, s, h, f, s', h', R, S, e, C⟩ => by
  unfold sAsg at e
  cases e1 : m s h with
  | none => simp [e1] at e
  | some p1 =>
    obtain ⟨v, h1⟩ := p1
    simp only [e1] at e
    cases e2 : g v s h1 with
    | none => simp [e2] at e
    | some p2 =>
      obtain ⟨s1, h2⟩ := p2
      simp only [e2, Option.some.injEq, Prod.mk.injEq] at e
      obtain ⟨rfl, rfl, rfl⟩ := e
      exact ⟨r, w, s, h, v, h1, R, S, e1, fun r1 u H1 F1 R1 V1 => ⟨r1, w, s, h1, v, _, _, R1, S.fwd F1, V1, e2, ContS.fwd C F1 R1⟩⟩
/-- o[k] = e -/
theorem stM_lst {r w : List Addr} {h h' : MH} {H : Hp} {d k v : MV} {u1 u2 u3 : V} {Q : Hp → Prop} (R : Rel K r w h H) (V1 : VR K r w H d u1) (V2 : VR K r w H k u2) (V3 : VR K r w H v u3) (e : stM h d k v = some h')
    (C : ∀ r' H', Fwd r H r' H' → Rel K r' w h' H' → Q H') : (∃ p us i j, u1 = .ref p ∧ u2 = .int i ∧ H p = some (.lst us) ∧ ixN us.length i = some j ∧ Q (upd H p (.lst (us.set j u3)))) ∨ ∃ a H4, u1 = .ref a ∧ DPut H a u2 u3 H4 ∧ Q H4 := by
  unfold stM at e
  split at e
  · rename_i n
    simp only [VR] at V1
    obtain ⟨a, rfl, hn⟩ := V1
    split at e
    · rename_i xs e1
      have hc := R.at_ n a _ hn e1
      simp only [CRel] at hc
      obtain ⟨us, ha, q⟩ := hc
      split at e
      · rename_i i
        split at e
        · rename_i j e2
          simp only [Option.some.injEq] at e; subst e
          simp only [VR] at V2
          refine .inl ⟨a, us, i, j, rfl, V2, ha, by rw [← VRs.length q]; exact e2, C r _ (Fwd.put hn _ (fun _ _ z => by rw [ha] at z; cases z)) (R.put hn (c := .lst _) ?_)⟩
          simp only [CRel]
          exact ⟨_, upd_same, VRs.set j (VRs.map (Stp.put hn _) _ _ q) (VR.map (Stp.put hn _) _ _ V3)⟩
        · cases e
      · cases e
    · rename_i kvs e1
      have hc := R.at_ n a _ hn e1
      simp only [CRel] at hc
      obtain ⟨us, ha, q⟩ := hc
      split at e
      · rename_i kk e2
        split at e
        · rename_i hl
          simp only [Option.some.injEq] at e; subst e
          have := key_kV V2 e2
          subst this
          refine .inr ⟨a, _, rfl, .inl ⟨us, kk, ha, rfl, by rw [← VRk.length q, ← szl]; exact hl, rfl⟩, C r _ (Fwd.put hn _ (fun _ _ z => by rw [ha] at z; cases z)) (R.put hn (c := .dK _) ?_)⟩
          simp only [CRel]
          exact ⟨_, upd_same, VRk.put kk (VR.map (Stp.put hn _) _ _ V3) (VRk.map (Stp.put hn _) _ _ q)⟩
        · cases e
      · cases e
    · rename_i kvs e1
      have hc := R.at_ n a _ hn e1
      simp only [CRel] at hc
      obtain ⟨us, ha, q⟩ := hc
      split at e
      · rename_i ks
        split at e
        · rename_i kk e2
          split at e
          · rename_i hl
            simp only [Option.some.injEq] at e; subst e
            simp only [VR] at V2
            obtain ⟨b, ws, rfl, t, q2⟩ := V2
            have := keys_kV q2 e2
            subst this
            refine .inr ⟨a, _, rfl, .inr ⟨us, kk, b, ha, rfl, t.2, by rw [← VRt.length q, ← szl]; exact hl, rfl⟩, C r _ (Fwd.put hn _ (fun _ _ z => by rw [ha] at z; cases z)) (R.put hn (c := .dT _) ?_)⟩
            simp only [CRel]
            exact ⟨_, upd_same, VRt.put kk (VR.map (Stp.put hn _) _ _ V3) (VRt.map (Stp.put hn _) _ _ q)⟩
          · cases e
        · cases e
      · cases e
    · cases e
  · cases e
theorem ms_put {k : Nat} {tpos : Pos} (hr : Room k X.A) (ho : ME X o mo) (hi : ME X i mi) (he : ME X e m) (hs : swapsWithSole [.Subscript o i tpos] e pos.line X.env = pure false := by rfl) (hw : swappedStores [.Subscript o i tpos] e X.env = pure none := by rfl)
    (ha : ∀ v, assign (.Subscript o i tpos) X.env v = (do
      let ov ← holding [v] (eval o X.env)
      let iv ← holding [v, ov] (eval i X.env)
      standAt tpos
      holding [v, ov, iv] (setItem ov iv v)
      release [v, ov, iv] []) := by intro _; rfl) (hs2 : swapsWith e (some (.Subscript o i tpos)) pos.line X.env = pure false := by rfl) : MS X (.Assign [.Subscript o i tpos] e pos) (sPut mo mi m) :=
  PS.wk (PS.or2 (ps_asg he (pg_sub ho hi set_list ha) hs hw) (ps_dput (hu_of hr) ho hi he hs2)) fun D z H ⟨r, w, s, h, f, s', h', R, S, e, C⟩ => by
  unfold sPut at e
  cases e1 : m s h with
  | none => simp [e1] at e
  | some p1 =>
    obtain ⟨v, h1⟩ := p1
    simp only [e1] at e
    cases e2 : mo s h1 with
    | none => simp [e2] at e
    | some p2 =>
      obtain ⟨d, h2⟩ := p2
      simp only [e2] at e
      cases e3 : mi s h2 with
      | none => simp [e3] at e
      | some p3 =>
        obtain ⟨kk, h3⟩ := p3
        simp only [e3] at e
        cases e4 : stM h3 d kk v with
        | none => simp [e4] at e
        | some h4 =>
          simp only [e4, Option.some.injEq, Prod.mk.injEq] at e
          obtain ⟨rfl, rfl, rfl⟩ := e
          -- which of the two rules, by the cell
          have key : ∀ r3 H3 u1 u2 u3, Fwd r H r3 H3 → Rel X.K r3 w h3 H3 → VR X.K r3 w H3 d u1 → VR X.K r3 w H3 kk u2 → VR X.K r3 w H3 v u3 → (rSetL u1 u2 u3 H3 fun H4 => D.nx z H4) ∨ ∃ a H4, u1 = .ref a ∧ DPut H3 a u2 u3 H4 ∧ D.nx z H4 := fun r3 H3 u1 u2 u3 F3 R3 V1 V2 V3 => by
            rcases stM_lst (Q := fun H4 => D.nx z H4) R3 V1 V2 V3 e4 (fun r4 H4 F4 R4 => C r4 z H4 (F3.tr R3 F4) R4 (S.fwd (F3.tr R3 F4))) with ⟨p, us, i, j, h1, h2, h3, h4, h5⟩ | q
            · exact .inl ⟨p, us, i, j, h1, h2, h3, h4, h5⟩
            · exact .inr q
          by_cases isL : ∃ n xs, d = .ref n ∧ h3[n]? = some (.lst xs)
          · refine .inl ⟨r, w, s, h, v, h1, R, S, e1, fun r1 u3 H1 F1 R1 V3 => ⟨r1, w, s, h1, d, h2, R1, S.fwd F1, e2, fun r2 u1 H2 F2 R2 V1 => ⟨r2, w, s, h2, kk, h3, R2, (S.fwd F1).fwd F2, e3, fun r3 u2 H3 F3 R3 V2 => ?_⟩⟩⟩
            rcases key r3 H3 u1 u2 u3 ((F1.tr R1 F2).tr R2 F3) R3 (VR.fwd F3 _ _ V1) V2 (VR.fwd F3 _ _ (VR.fwd F2 _ _ V3)) with q | ⟨a, H4, rfl, q, _⟩
            · exact q
            · obtain ⟨n, xs, rfl, e5⟩ := isL
              obtain ⟨a', us, e6, _, ha, _⟩ := ref_at R3 (VR.fwd F3 _ _ V1) e5
              cases e6
              rcases q with ⟨_, _, q, _⟩ | ⟨_, _, _, q, _⟩ <;> (rw [ha] at q; cases q)
          · refine .inr ⟨r, w, s, h, v, h1, R, S, e1, fun r1 u3 H1 F1 R1 V3 => ⟨r1, w, s, h1, d, h2, R1, S.fwd F1, e2, fun r2 u1 H2 F2 R2 V1 => ⟨r2, w, s, h2, kk, h3, R2, (S.fwd F1).fwd F2, e3, fun r3 u2 H3 F3 R3 V2 => ?_⟩⟩⟩
            rcases key r3 H3 u1 u2 u3 ((F1.tr R1 F2).tr R2 F3) R3 (VR.fwd F3 _ _ V1) V2 (VR.fwd F3 _ _ (VR.fwd F2 _ _ V3)) with ⟨p, us, i, j, h1, h2, ha, _⟩ | q
            · exfalso
              unfold stM at e4
              split at e4
              · rename_i n
                split at e4
                · rename_i xs e5; exact isL ⟨n, xs, rfl, e5⟩
                · rename_i xs e5
                  have V1' := VR.fwd F3 _ _ V1
                  simp only [VR] at V1'
                  obtain ⟨a, rfl, hn⟩ := V1'
                  cases h1
                  have hc := R3.at_ n _ _ hn e5
                  simp only [CRel] at hc
                  obtain ⟨us, q, _⟩ := hc
                  rw [ha] at q; cases q
                · rename_i xs e5
                  have V1' := VR.fwd F3 _ _ V1
                  simp only [VR] at V1'
                  obtain ⟨a, rfl, hn⟩ := V1'
                  cases h1
                  have hc := R3.at_ n _ _ hn e5
                  simp only [CRel] at hc
                  obtain ⟨us, q, _⟩ := hc
                  rw [ha] at q; cases q
                · cases e4
              · cases e4
            · exact q
/-- a, b = e1, e2 -/
theorem ms_par {n1 n2 : Nat} {t1 t2 : Str} {px py pt : Pos} {kt k2 pt2} (hN : X.N.Nodup) (ha : ME X a ma) (hb : ME X b mb) (hi : X.N[n1]? = some t1 := by rfl) (hj : X.N[n2]? = some t2 := by rfl) (hij : n1 ≠ n2 := by decide)
    (hx : X.env.scope.names.lookup t1 = some .local := by rfl) (hy : X.env.scope.names.lookup t2 = some .local := by rfl) (he1 : starEach (a :: [b]) X.env = (false, eval a X.env) :: starEach [b] X.env := by rfl) (he2 : starEach (b :: []) X.env = (false, eval b X.env) :: starEach [] X.env := by rfl)
    (hw : swappedStores [.Tuple [.Name t1 px, .Name t2 py] kt pt] (.Tuple [a, b] k2 pt2) X.env = pure (some [t1, t2]) := by rfl)
    (hs : swapsWithSole [.Tuple [.Name t1 px, .Name t2 py] kt pt] (.Tuple [a, b] k2 pt2) pos.line X.env = pure false := by rfl) (hc : X.calm = true := by rfl) :
    MS X (.Assign [.Tuple [.Name t1 px, .Name t2 py] kt pt] (.Tuple [a, b] k2 pt2) pos) (sPar n1 n2 ma mb) := PS.wk (ps_par hc hN hi hj hij hx hy (pa_cons ha (pa_cons hb pa_nil he2) he1) hw hs) fun D z H ⟨r, w, s, h, f, s', h', R, S, e, C⟩ => by
  unfold sPar at e
  cases e1 : ma s h with
  | none => simp [e1] at e
  | some p1 =>
    obtain ⟨v, h1⟩ := p1
    simp only [e1] at e
    cases e2 : mb s h1 with
    | none => simp [e2] at e
    | some p2 =>
      obtain ⟨v2, h2⟩ := p2
      simp only [e2, Option.some.injEq, Prod.mk.injEq] at e
      obtain ⟨rfl, rfl, rfl⟩ := e
      exact ⟨r, w, s, h, v, h1, R, S, e1, fun r1 u1 H1 F1 R1 V1 => ⟨r1, w, s, h1, v2, h2, R1, S.fwd F1, e2, fun r2 u2 H2 F2 R2 V2 => ⟨u1, u2, rfl, C r2 _ H2 (F1.tr R1 F2) R2 (((S.fwd F1).fwd F2).set n1 (VR.fwd F2 _ _ V1) |>.set n2 V2)⟩⟩⟩
/-! ### while -/
theorem ms_while (hc : MT X c ta) (hb : MSs X sts x) (hp : PassesOwn (model X.prog X.w) X.A X.env X.xe := by exact PassesOwn.never) : MS X (.While c sts [] pos) (sWhile ta x) := PS.wk (ps_while hp hc hb) fun D z H ⟨r, w, s, h, f, s', h', R, S, e, C⟩ => by
  obtain ⟨turns, e⟩ := fuel_at e
  refine ⟨fun n z H => ∃ r w s h f s' h', Rel X.K r w h H ∧ SR X.K r w H s z ∧ whileGo ta x n s h = some (f, s', h') ∧ EndS X.K r w h' H s' D f, ⟨turns, r, w, s, h, f, s', h', R, S, e, C⟩, ?_⟩
  rintro n z H ⟨r, w, s, h, f, s', h', R, S, e, C⟩
  cases n with
  | zero => simp [whileGo] at e
  | succ n =>
    simp only [whileGo] at e
    split at e
    · cases e
    · rename_i h1 e1
      simp only [Option.some.injEq, Prod.mk.injEq] at e
      obtain ⟨rfl, rfl, rfl⟩ := e
      exact ⟨r, w, s, h, _, h1, R, S, e1, fun r1 H1 F1 R1 => iteF (C r1 z H1 F1 R1 (S.fwd F1))⟩
    · rename_i h1 e1
      refine ⟨r, w, s, h, _, h1, R, S, e1, fun r1 H1 F1 R1 => iteT ⟨fun z' H' => ∃ r w s h f s' h', Rel X.K r w h H' ∧ SR X.K r w H' s z' ∧ whileGo ta x n s h = some (f, s', h') ∧ EndS X.K r w h' H' s' D f, fun z' H' q => ⟨n, Nat.lt_succ_self n, q⟩, ?_⟩⟩
      split at e
      · rename_i s2 h2 e2
        exact ⟨r1, w, s, h1, .nx, s2, h2, R1, S.fwd F1, e2, fun r2 z2 H2 F2 R2 S2 => ⟨r2, w, s2, h2, f, s', h', R2, S2, e, EndS.fwd C (F1.tr R1 F2) R2⟩⟩
      · rename_i s2 h2 e2
        exact ⟨r1, w, s, h1, .ct, s2, h2, R1, S.fwd F1, e2, fun r2 z2 H2 F2 R2 S2 => ⟨r2, w, s2, h2, f, s', h', R2, S2, e, EndS.fwd C (F1.tr R1 F2) R2⟩⟩
      · rename_i s2 h2 e2
        simp only [Option.some.injEq, Prod.mk.injEq] at e
        obtain ⟨rfl, rfl, rfl⟩ := e
        exact ⟨r1, w, s, h1, .bk, s2, h2, R1, S.fwd F1, e2, ContS.fwd C F1 R1⟩
      · rename_i v s2 h2 e2
        simp only [Option.some.injEq, Prod.mk.injEq] at e
        obtain ⟨rfl, rfl, rfl⟩ := e
        exact ⟨r1, w, s, h1, .rt v, s2, h2, R1, S.fwd F1, e2, Cont.fwd C F1 R1⟩
      · cases e
end
end Ew
end

section
set_option Elab.async false
set_option linter.all false
set_option maxRecDepth 100000
set_option maxHeartbeats 4000000
/-! EwG: for, comprehensions, defs and their calls. -/
namespace Ew
open PySem PySem.Spec PyProof.Rows L2
variable [Tabs]
section
variable (K : PySem.W.Frag)
/-- what an iterator yields, turn by turn -/
structure Walks (J : It) (xs : List MV) (r w : List Addr) (H : Hp) : Prop where
  at_ : ∀ i r1 w1 H1 h1, Fwd r H r1 H1 → Stp r w H r1 w1 H1 → Rel K r1 w1 h1 H1 → i < xs.length → J.go i H1 ∧ ∀ x H2, J.yld i H1 x H2 → Fwd r1 H1 r1 H2 ∧ Rel K r1 w1 h1 H2 ∧ ∃ v, xs[i]? = some v ∧ VR K r1 w1 H2 v x
  stop : ∀ i r1 w1 H1 h1, Fwd r H r1 H1 → Stp r w H r1 w1 H1 → Rel K r1 w1 h1 H1 → xs.length = i → J.stop i H1
structure WalksC (J : It) (n : Nat) (r w : List Addr) (H : Hp) : Prop where
  at_ : ∀ i r1 w1 H1 h1 ys y, Stp r w H r1 w1 H1 → Rel K r1 w1 h1 H1 → h1[n]? = some (.lst ys) → ys[i]? = some y → J.go i H1 ∧ ∀ x H2, J.yld i H1 x H2 → H2 = H1 ∧ VR K r1 w1 H2 y x
  stop : ∀ i r1 w1 H1 h1 ys, Stp r w H r1 w1 H1 → Rel K r1 w1 h1 H1 → h1[n]? = some (.lst ys) → ys[i]? = none → J.stop i H1
def WalkI (it : MI) (J : It) (r w : List Addr) (H : Hp) : Prop := match it with
  | .vals xs => Walks K J xs r w H
  | .cell n => WalksC K J n r w H
def tI (m : XI) : TI := fun z H R => ∃ r w s h it h', Rel K r w h H ∧ SR K r w H s z ∧ m s h = some (it, h') ∧ ∀ r' J H', Fwd r H r' H' → Rel K r' w h' H' → WalkI K it J r' w H' → R J H'
end
abbrev MII (X : Cx) (tg e : Expr) (m : XI) : Prop := PI X tg e (tI X.K m)
theorem PI.wk {X : Cx} {tg e : Expr} {t t' : TI} (h : PI X tg e t) (k : ∀ z H R, t' z H R → t z H R) : PI X tg e t' := ⟨fun pins s z H R I q => h.run pins s z H R I (k z H R q)⟩
section
variable {K : PySem.W.Frag} {X : Cx} {e a b c o i : Expr} {m ma mb mc mo mi : XE} {pos p : Pos} {es : List Expr} {mas : XA} {st : Stmt} {sts sts2 : List Stmt} {x y : XS} {ta : XT} {g : XG} {gs : XGs} {tg iter : Expr} {it : XI}
theorem walks_list (K : PySem.W.Frag) {r w : List Addr} {H : Hp} {h : MH} {v : MV} {a : Addr} {xs : List MV} (R : Rel K r w h H) (V : VR K r w H v (.ref a)) (nr : ∀ n, v ≠ .ref n) (e : listOf h v = some xs) : Walks K (Itl K a) xs r w H := by
  have get : ∀ r1 w1 H1 h1, Stp r w H r1 w1 H1 → Rel K r1 w1 h1 H1 → ∃ us, SqL K H1 a us ∧ VRs K r1 w1 H1 xs us := fun r1 w1 H1 h1 F R1 => by
    have V1 := VR.map F _ _ V
    have e1 : listOf h1 v = some xs := by
      cases v <;> first | exact e | exact absurd rfl (nr _)
    obtain ⟨p, us, ep, sq, q⟩ := list_sq K R1 V1 e1
    cases ep
    exact ⟨us, sq, q⟩
  refine ⟨fun i r1 w1 H1 h1 _ F R1 hi => ?_, fun i r1 w1 H1 h1 _ F R1 hi => ?_⟩
  · obtain ⟨us, sq, q⟩ := get r1 w1 H1 h1 F R1
    have e1 : xs[i]? = some xs[i] := List.getElem?_eq_getElem hi
    obtain ⟨u, q1, q2⟩ := VRs.get q e1
    refine ⟨⟨us, u, sq, q1⟩, fun x H2 ⟨eH, hx⟩ => ?_⟩
    subst eH
    have := hx us sq
    rw [q1] at this
    cases this
    exact ⟨Fwd.refl _ _, R1, _, e1, q2⟩
  · obtain ⟨us, sq, q⟩ := get r1 w1 H1 h1 F R1
    exact ⟨us, sq, by rw [← VRs.length q]; exact Nat.le_of_eq hi⟩
theorem walks_tv (K : PySem.W.Frag) {r w : List Addr} {H : Hp} {h : MH} {a : Addr} {v : MV} {xs : List MV} (R : Rel K r w h H) (V : VR K r w H v (.ref a)) (hv : v = .tup xs ∨ v = .row xs) : Walks K (Itt K a) xs r w H := by
  have get : ∀ r1 w1 H1 h1, Stp r w H r1 w1 H1 → Rel K r1 w1 h1 H1 → ∃ us, SqT K H1 a us ∧ VRs K r1 w1 H1 xs us := fun r1 w1 H1 h1 F R1 => by
    have V1 := VR.map F _ _ V
    rcases hv with rfl | rfl
    · simp only [VR] at V1
      obtain ⟨p, us, ep, t, q⟩ := V1
      cases ep
      exact ⟨us, t.sq, q⟩
    · simp only [VR] at V1
      obtain ⟨p, us, ep, t, q⟩ := V1
      cases ep
      exact ⟨us, t.sq, q⟩
  refine ⟨fun i r1 w1 H1 h1 _ F R1 hi => ?_, fun i r1 w1 H1 h1 _ F R1 hi => ?_⟩
  · obtain ⟨us, sq, q⟩ := get r1 w1 H1 h1 F R1
    have e1 : xs[i]? = some xs[i] := List.getElem?_eq_getElem hi
    obtain ⟨u, q1, q2⟩ := VRs.get q e1
    refine ⟨⟨us, u, sq, q1⟩, fun x H2 ⟨eH, hx⟩ => ?_⟩
    subst eH
    have := hx us sq
    rw [q1] at this
    cases this
    exact ⟨Fwd.refl _ _, R1, _, e1, q2⟩
  · obtain ⟨us, sq, q⟩ := get r1 w1 H1 h1 F R1
    exact ⟨us, sq, by rw [← VRs.length q]; exact Nat.le_of_eq hi⟩
theorem walks_cell (K : PySem.W.Frag) {r w : List Addr} {H : Hp} {h : MH} {a : Addr} {n : Nat} (R : Rel K r w h H) (hn : r[n]? = some a) : WalksC K (Itl K a) n r w H := by
  have get : ∀ r1 w1 H1 h1 ys, Stp r w H r1 w1 H1 → Rel K r1 w1 h1 H1 → h1[n]? = some (.lst ys) → ∃ us, SqL K H1 a us ∧ VRs K r1 w1 H1 ys us := fun r1 w1 H1 h1 ys F R1 e1 => by
    have hc := R1.at_ n a _ (F.ix _ _ hn) e1
    simp only [CRel] at hc
    obtain ⟨us, h1, h2⟩ := hc
    exact ⟨us, .inl (.inl h1), h2⟩
  refine ⟨fun i r1 w1 H1 h1 ys y F R1 e1 e2 => ?_, fun i r1 w1 H1 h1 ys F R1 e1 e2 => ?_⟩
  · obtain ⟨us, sq, q⟩ := get r1 w1 H1 h1 ys F R1 e1
    obtain ⟨u, q1, q2⟩ := VRs.get q e2
    refine ⟨⟨us, u, sq, q1⟩, fun x H2 ⟨eH, hx⟩ => ?_⟩
    subst eH
    have := hx us sq
    rw [q1] at this
    cases this
    exact ⟨rfl, q2⟩
  · obtain ⟨us, sq, q⟩ := get r1 w1 H1 h1 ys F R1 e1
    exact ⟨us, sq, by rw [← VRs.length q]; exact List.getElem?_eq_none_iff.mp e2⟩
/-- a list, a tuple that is walked -/
theorem mi_seq (he : ME X e m) : MII X tg e (iSeq m) := PI.wk (PI.or2 (pi_list he) (pi_tup he)) fun z H Q ⟨r, w, s, h, it, h', R, S, e, C⟩ => by
  unfold iSeq at e
  split at e
  · rename_i n h1 e1
    split at e
    · rename_i ys e2
      simp only [Option.some.injEq, Prod.mk.injEq] at e
      obtain ⟨rfl, rfl⟩ := e
      refine .inl ⟨r, w, s, h, _, h1, R, S, e1, fun r1 u H1 F1 R1 V1 => ?_⟩
      obtain ⟨a, us, rfl, hn, ha, q⟩ := ref_at R1 V1 e2
      exact ⟨a, rfl, ⟨us, SqL.of ha⟩, C r1 _ H1 F1 R1 (walks_cell X.K R1 hn)⟩
    · cases e
  · rename_i v h1 nr e1
    split at e
    · rename_i xs e2
      simp only [Option.some.injEq, Prod.mk.injEq] at e
      obtain ⟨rfl, rfl⟩ := e
      by_cases ht : ∃ ys, v = .tup ys ∨ v = .row ys
      · obtain ⟨ys, ht⟩ := ht
        obtain rfl : ys = xs := by rcases ht with rfl | rfl <;> simpa [seqOf] using e2
        refine .inr ⟨r, w, s, h, _, h1, R, S, e1, fun r1 u H1 F1 R1 V1 => ?_⟩
        have V1' := V1
        obtain ⟨a, us, rfl, sq⟩ : ∃ a us, u = .ref a ∧ SqT X.K H1 a us := by
          rcases ht with rfl | rfl
          · simp only [VR] at V1'
            obtain ⟨a, us, e, t, _⟩ := V1'
            exact ⟨a, us, e, t.sq⟩
          · simp only [VR] at V1'
            obtain ⟨a, us, e, t, _⟩ := V1'
            exact ⟨a, us, e, t.sq⟩
        exact ⟨a, rfl, ⟨us, sq⟩, C r1 _ H1 F1 R1 (walks_tv X.K R1 V1 ht)⟩
      · have e3 : listOf h1 v = some xs := by
          cases v <;> first | exact absurd ⟨_, .inl rfl⟩ ht | exact absurd ⟨_, .inr rfl⟩ ht | simpa [seqOf] using e2
        refine .inl ⟨r, w, s, h, _, h1, R, S, e1, fun r1 u H1 F1 R1 V1 => ?_⟩
        obtain ⟨a, us, rfl, sq, q⟩ := list_sq X.K R1 V1 e3
        exact ⟨a, rfl, ⟨us, sq⟩, C r1 _ H1 F1 R1 (walks_list X.K R1 V1 (fun n en => nr n (by rw [en])) e3)⟩
    · cases e
  · cases e
theorem rngM_at {lo : Int} {n i : Nat} (hi : i < n) : (rngM lo n)[i]? = some (.int (lo + (i : Nat))) := by
  unfold rngM
  rw [List.getElem?_map, List.getElem?_range hi]
  rfl
theorem walks_rng {lo : Int} {n : Nat} {r w : List Addr} {H : Hp} : Walks K (Itr lo n) (rngM lo n) r w H := by
  have hl : (rngM lo n).length = n := by simp [rngM]
  refine ⟨fun i r1 w1 H1 h1 _ F R1 hi => ?_, fun i r1 w1 H1 h1 _ F R1 hi => ?_⟩
  · rw [hl] at hi
    refine ⟨hi, fun x H2 ⟨eH, hx⟩ => ?_⟩
    subst eH hx
    exact ⟨Fwd.refl _ _, R1, _, rngM_at hi, by simp only [VR]⟩
  · rw [hl] at hi
    exact Nat.le_of_eq hi
theorem mi_range1 (hm : X.mg "range" = none) (he : ME X e m) (hg : Gl X "range" := by rfl) (hs : starEach [e] X.env = [(false, eval e X.env)] := by rfl) : MII X tg (.Call (.Name "range" p) [e] [] pos) (iRange1 m) :=
  PI.wk (pi_range1 hg hm (pa_cons he pa_nil hs) hs) fun z H Q ⟨r, w, s, h, it, h', R, S, e, C⟩ => by
  unfold iRange1 at e
  split at e
  · rename_i j h1 e1
    split at e
    · rename_i hj
      simp only [Option.some.injEq, Prod.mk.injEq] at e
      obtain ⟨rfl, rfl⟩ := e
      refine ⟨r, w, s, h, _, h1, R, S, e1, fun r1 u H1 F1 R1 V1 => ?_⟩
      simp only [VR] at V1
      subst V1
      exact ⟨j, rfl, hj.1, hj.2, C r1 _ H1 F1 R1 walks_rng⟩
    · cases e
  · cases e
theorem mi_range2 (hm : X.mg "range" = none) (ha : ME X a ma) (hb : ME X b mb) (hg : Gl X "range" := by rfl) (hs : starEach [a, b] X.env = [(false, eval a X.env), (false, eval b X.env)] := by rfl) (hs2 : starEach [b] X.env = [(false, eval b X.env)] := by rfl)
    (hs3 : starEach (a :: [b]) X.env = (false, eval a X.env) :: starEach [b] X.env := by rfl) : MII X tg (.Call (.Name "range" p) [a, b] [] pos) (iRange2 ma mb) :=
  PI.wk (pi_range2 hg hm (pa_cons ha (pa_cons hb pa_nil hs2) hs3) hs hs2) fun z H Q ⟨r, w, s, h, it, h', R, S, e, C⟩ => by
  unfold iRange2 at e
  split at e
  · rename_i i h1 e1
    split at e
    · rename_i j h2 e2
      split at e
      · rename_i hj
        simp only [Option.some.injEq, Prod.mk.injEq] at e
        obtain ⟨rfl, rfl⟩ := e
        refine ⟨r, w, s, h, _, h1, R, S, e1, fun r1 u1 H1 F1 R1 V1 => ⟨r1, w, s, h1, _, h2, R1, S.fwd F1, e2, fun r2 u2 H2 F2 R2 V2 => ?_⟩⟩
        simp only [VR] at V1 V2
        subst V1 V2
        exact ⟨i, j, rfl, hj, C r2 _ H2 (F1.tr R1 F2) R2 walks_rng⟩
      · cases e
    · cases e
  · cases e
/-! ### for -/
theorem for_vals {J : It} {xs : List MV} {tb : TS} {D : Ends} {z : L2.St} {r w : List Addr} {s : SM} {h : MH} {H : Hp} {f : Fl} {s' : SM} {h' : MH} (Wk : Walks K J xs r w H) (R : Rel K r w h H) (S : SR K r w H s z) (e : forGo g x xs s h = some (f, s', h')) (C : EndS K r w h' H s' D f) :
    ∃ W : Nat → Nat → L2.St → Hp → Prop, (∃ m, W 0 m z H) ∧ ∀ i m z H, W i m z H →
      (J.stop i H ∧ D.nx z H) ∨ (J.go i H ∧ ∃ N : L2.St → Hp → Prop, (∀ z' H', N z' H' → ∃ m', m' < m ∧ W (i + 1) m' z' H') ∧ ∀ u H', J.yld i H u H' → tG K g u z H' fun z2 H2 => tS K x { D with nx := N, ct := N, bk := D.nx } z2 H2) := by
  have W0 : Nat → L2.St → Hp → Prop := fun i z1 H1 => True
  refine ⟨fun i n z1 H1 => n = xs.length - i ∧ i ≤ xs.length ∧ ∃ r1 s1 h1, Fwd r H r1 H1 ∧ Rel K r1 w h1 H1 ∧ SR K r1 w H1 s1 z1 ∧ forGo g x (xs.drop i) s1 h1 = some (f, s', h'),
    ⟨_, rfl, Nat.zero_le _, r, s, h, Fwd.refl r H, R, S, by simpa using e⟩, ?_⟩
  rintro i n z1 H1 ⟨rfl, hi, r1, s1, h1, F1, R1, S1, e1⟩
  by_cases hl : i < xs.length
  · refine .inr ⟨(Wk.at_ i r1 w H1 h1 F1 F1.stp R1 hl).1, fun z2 H2 => ∃ r2 s2 h2, Fwd r H r2 H2 ∧ Rel K r2 w h2 H2 ∧ SR K r2 w H2 s2 z2 ∧ forGo g x (xs.drop (i + 1)) s2 h2 = some (f, s', h'), fun z2 H2 q => ⟨xs.length - (i + 1), by omega, rfl, hl, q⟩, fun u H2 hy => ?_⟩
    obtain ⟨F2, R2, v, ev, Vv⟩ := (Wk.at_ i r1 w H1 h1 F1 F1.stp R1 hl).2 u H2 hy
    have F12 := F1.tr R1 F2
    have ed : xs.drop i = v :: xs.drop (i + 1) := by
      rw [List.drop_eq_getElem_cons hl]
      rw [List.getElem?_eq_getElem hl] at ev
      cases ev; rfl
    rw [ed] at e1
    simp only [forGo] at e1
    cases e2 : g v s1 h1 with
    | none => simp [e2] at e1
    | some p2 =>
      obtain ⟨s3, h3⟩ := p2
      simp only [e2] at e1
      refine ⟨r1, w, s1, h1, v, s3, h3, R2, S1.fwd F2, Vv, e2, fun r3 z3 H3 F3 R3 S3 => ?_⟩
      have F13 := F12.tr R2 F3
      split at e1
      · rename_i s4 h4 e4
        exact ⟨r3, w, s3, h3, .nx, s4, h4, R3, S3, e4, fun r4 z4 H4 F4 R4 S4 => ⟨r4, s4, h4, F13.tr R3 F4, R4, S4, e1⟩⟩
      · rename_i s4 h4 e4
        exact ⟨r3, w, s3, h3, .ct, s4, h4, R3, S3, e4, fun r4 z4 H4 F4 R4 S4 => ⟨r4, s4, h4, F13.tr R3 F4, R4, S4, e1⟩⟩
      · rename_i s4 h4 e4
        simp only [Option.some.injEq, Prod.mk.injEq] at e1
        obtain ⟨rfl, rfl, rfl⟩ := e1
        exact ⟨r3, w, s3, h3, .bk, s4, h4, R3, S3, e4, ContS.fwd C F13 R3⟩
      · rename_i v4 s4 h4 e4
        simp only [Option.some.injEq, Prod.mk.injEq] at e1
        obtain ⟨rfl, rfl, rfl⟩ := e1
        exact ⟨r3, w, s3, h3, .rt v4, s4, h4, R3, S3, e4, Cont.fwd C F13 R3⟩
      · cases e1
  · have e0 : xs.drop i = [] := List.drop_eq_nil_of_le (by omega)
    rw [e0] at e1
    simp only [forGo, Option.some.injEq, Prod.mk.injEq] at e1
    obtain ⟨rfl, rfl, rfl⟩ := e1
    exact .inl ⟨Wk.stop i r1 w H1 h1 F1 F1.stp R1 (by omega), C r1 z1 H1 F1 R1 S1⟩
theorem for_cell {J : It} {n : Nat} {D : Ends} {z : L2.St} {r w : List Addr} {s : SM} {h : MH} {H : Hp} {f : Fl} {s' : SM} {h' : MH} {t : Nat} (Wk : WalksC K J n r w H) (R : Rel K r w h H) (S : SR K r w H s z) (e : forCell g x n t 0 s h = some (f, s', h')) (C : EndS K r w h' H s' D f) :
    ∃ W : Nat → Nat → L2.St → Hp → Prop, (∃ m, W 0 m z H) ∧ ∀ i m z H, W i m z H →
      (J.stop i H ∧ D.nx z H) ∨ (J.go i H ∧ ∃ N : L2.St → Hp → Prop, (∀ z' H', N z' H' → ∃ m', m' < m ∧ W (i + 1) m' z' H') ∧ ∀ u H', J.yld i H u H' → tG K g u z H' fun z2 H2 => tS K x { D with nx := N, ct := N, bk := D.nx } z2 H2) := by
  refine ⟨fun i k z1 H1 => ∃ r1 s1 h1, Fwd r H r1 H1 ∧ Rel K r1 w h1 H1 ∧ SR K r1 w H1 s1 z1 ∧ forCell g x n k i s1 h1 = some (f, s', h'),
    ⟨t, r, s, h, Fwd.refl r H, R, S, e⟩, ?_⟩
  rintro i k z1 H1 ⟨r1, s1, h1, F1, R1, S1, e1⟩
  cases k with
  | zero => simp [forCell] at e1
  | succ k =>
    simp only [forCell] at e1
    split at e1
    · rename_i ys e2
      cases e3 : ys[i]? with
      | none =>
        simp only [e3, Option.some.injEq, Prod.mk.injEq] at e1
        obtain ⟨rfl, rfl, rfl⟩ := e1
        exact .inl ⟨Wk.stop i r1 w H1 h1 ys F1.stp R1 e2 e3, C r1 z1 H1 F1 R1 S1⟩
      | some v =>
        simp only [e3] at e1
        refine .inr ⟨(Wk.at_ i r1 w H1 h1 ys v F1.stp R1 e2 e3).1, fun z2 H2 => ∃ r2 s2 h2, Fwd r H r2 H2 ∧ Rel K r2 w h2 H2 ∧ SR K r2 w H2 s2 z2 ∧ forCell g x n k (i + 1) s2 h2 = some (f, s', h'), fun z2 H2 q => ⟨k, Nat.lt_succ_self k, q⟩, fun u H2 hy => ?_⟩
        obtain ⟨eH, Vv⟩ := (Wk.at_ i r1 w H1 h1 ys v F1.stp R1 e2 e3).2 u H2 hy
        subst eH
        cases e4 : g v s1 h1 with
        | none => simp [e4] at e1
        | some p2 =>
          obtain ⟨s3, h3⟩ := p2
          simp only [e4] at e1
          refine ⟨r1, w, s1, h1, v, s3, h3, R1, S1, Vv, e4, fun r3 z3 H3 F3 R3 S3 => ?_⟩
          have F13 := F1.tr R1 F3
          split at e1
          · rename_i s4 h4 e4
            exact ⟨r3, w, s3, h3, .nx, s4, h4, R3, S3, e4, fun r4 z4 H4 F4 R4 S4 => ⟨r4, s4, h4, F13.tr R3 F4, R4, S4, e1⟩⟩
          · rename_i s4 h4 e4
            exact ⟨r3, w, s3, h3, .ct, s4, h4, R3, S3, e4, fun r4 z4 H4 F4 R4 S4 => ⟨r4, s4, h4, F13.tr R3 F4, R4, S4, e1⟩⟩
          · rename_i s4 h4 e4
            simp only [Option.some.injEq, Prod.mk.injEq] at e1
            obtain ⟨rfl, rfl, rfl⟩ := e1
            exact ⟨r3, w, s3, h3, .bk, s4, h4, R3, S3, e4, ContS.fwd C F13 R3⟩
          · rename_i v4 s4 h4 e4
            simp only [Option.some.injEq, Prod.mk.injEq] at e1
            obtain ⟨rfl, rfl, rfl⟩ := e1
            exact ⟨r3, w, s3, h3, .rt v4, s4, h4, R3, S3, e4, Cont.fwd C F13 R3⟩
          · cases e1
    · cases e1
theorem ms_for (hi : MII X tg iter it) (hg : MG X tg g) (hb : MSs X sts x) (hs : ∀ x, foldedSetIterable iter X.env x = pure x := by intro _; rfl) (hp : PassesOwn (model X.prog X.w) X.A X.env X.xe := by exact PassesOwn.never) (hc : X.calm = true := by rfl) : MS X (.For tg iter sts [] pos) (sFor it g x) := PS.wk (ps_for hp hc hi hg hb hs) fun D z H ⟨r, w, s, h, f, s', h', R, S, e, C⟩ => by
  unfold sFor at e
  split at e
  · cases e
  · rename_i xs h1 e1
    exact ⟨r, w, s, h, _, h1, R, S, e1, fun r1 J H1 F1 R1 W => for_vals (tb := tS X.K x) W R1 (S.fwd F1) e (EndS.fwd C F1 R1)⟩
  · rename_i n h1 e1
    obtain ⟨t, e⟩ := fuel_at e
    exact ⟨r, w, s, h, _, h1, R, S, e1, fun r1 J H1 F1 R1 W => for_cell W R1 (S.fwd F1) e (EndS.fwd C F1 R1)⟩
end
end Ew
end

section
set_option Elab.async false
set_option linter.all false
set_option maxRecDepth 100000
set_option maxHeartbeats 4000000
/-! EwH: comprehensions, defs and their calls. -/
namespace Ew
open PySem PySem.Spec PyProof.Rows L2
variable [Tabs]
/-! ### slots that are wiped -/
theorem wipe_get (z : L2.St) : ∀ (vs : List Nat) (j : Nat), (wipe z vs)[j]? = if j ∈ vs then (if j < z.length then some none else none) else z[j]?
  | [], j => by simp [wipe]
  | v :: vs, j => by
    unfold wipe
    by_cases e : j = v
    · subst e
      simp only [List.mem_cons, true_or, if_true]
      by_cases hl : j < z.length
      · rw [List.getElem?_set_self (by rw [wipe_length]; exact hl), if_pos hl]
      · rw [List.getElem?_eq_none_iff.mpr (by rw [List.length_set, wipe_length]; omega), if_neg hl]
    · rw [List.getElem?_set_ne (Ne.symm e), wipe_get z vs j]
      simp only [List.mem_cons, e, false_or]
theorem wipeM_get (z : SM) : ∀ (vs : List Nat) (j : Nat), (wipeM z vs)[j]? = if j ∈ vs then (if j < z.length then some none else none) else z[j]?
  | [], j => by simp [wipeM]
  | v :: vs, j => by
    have hlen : ∀ vs : List Nat, (wipeM z vs).length = z.length := by
      intro vs
      induction vs with
      | nil => rfl
      | cons v vs ih => unfold wipeM; rw [List.length_set, ih]
    unfold wipeM
    by_cases e : j = v
    · subst e
      simp only [List.mem_cons, true_or, if_true]
      by_cases hl : j < z.length
      · rw [List.getElem?_set_self (by rw [hlen]; exact hl), if_pos hl]
      · rw [List.getElem?_eq_none_iff.mpr (by rw [List.length_set, hlen]; omega), if_neg hl]
    · rw [List.getElem?_set_ne (Ne.symm e), wipeM_get z vs j]
      simp only [List.mem_cons, e, false_or]
theorem wipeM_length (z : SM) : ∀ vs : List Nat, (wipeM z vs).length = z.length
  | [] => rfl
  | v :: vs => by unfold wipeM; rw [List.length_set, wipeM_length z vs]
theorem wipe_set {z : L2.St} {vs : List Nat} {i : Nat} {o : Option V} (hi : i ∈ vs) : wipe (z.set i o) vs = wipe z vs := by
  apply List.ext_getElem?
  intro j
  rw [wipe_get, wipe_get, List.length_set]
  by_cases hj : j ∈ vs
  · rw [if_pos hj, if_pos hj]
  · rw [if_neg hj, if_neg hj]
    have ne : i ≠ j := fun e => hj (by rw [← e]; exact hi)
    exact List.getElem?_set_ne ne
section
variable {K : PySem.W.Frag} {r r' w : List Addr} {H H' : Hp} {h : MH}
theorem SR.wipe {s : SM} {z : L2.St} (S : SR K r w H s z) (vs : List Nat) : SR K r w H (wipeM s vs) (L2.wipe z vs) := by
  refine ⟨by rw [wipeM_length, wipe_length]; exact S.1, fun i v e => ?_⟩
  rw [wipeM_get] at e
  by_cases hi : i ∈ vs
  · rw [if_pos hi] at e
    split at e <;> cases e
  · rw [if_neg hi] at e
    rw [wipe_get, if_neg hi]
    exact S.2 i v e
theorem Stp.held {p : Addr} {o : HO} (hw : p ∈ w) : Stp r w H r w (upd H p o) := ⟨fun _ _ h => h, fun a u n e => ⟨n, .inl (by rw [upd_ne (fun z => n.2 (by rw [z]; exact hw))]; exact e)⟩⟩
theorem Rel.held {p : Addr} {o : HO} (R : Rel K r w h H) (hw : p ∈ w) : Rel K r w h (upd H p o) := by
  have hp : p ∉ r := (R.wh p hw).1
  refine ⟨R.len, R.nd, fun n a c hn hc => (R.at_ n a c hn hc).map (Stp.held hw) (upd_ne fun z => hp (by rw [← z]; exact List.mem_of_getElem? hn)), fun d hd => ?_⟩
  obtain ⟨n, u, e⟩ := R.wh d hd
  refine ⟨n, ?_⟩
  by_cases q : d = p
  · subst q; exact ⟨o, upd_same⟩
  · exact ⟨u, by rw [upd_ne q]; exact e⟩
end
/-- a comprehension's target -/
structure TgOk (K : PySem.W.Frag) (vs : List Nat) (g : TG) (gm : XG) : Prop where
  at_ : ∀ (r w : List Addr) (s : SM) (h : MH) (v : MV) (s1 : SM) (h1 : MH) (u : V) (z : L2.St) (H : Hp) (Q : L2.St → Hp → Prop), Rel K r w h H → SR K r w H s z → VR K r w H v u → gm v s h = some (s1, h1) →
    h1 = h ∧ ((∀ z1, SR K r w H s1 z1 → L2.wipe z1 vs = L2.wipe z vs → Q z1 H) → g u z H Q)
theorem tgok_nm {K : PySem.W.Frag} {vs : List Nat} {i : Nat} (hi : i ∈ vs) : TgOk K vs (gName i) (gNm i) := ⟨fun r w s h v s1 h1 u z H Q R S V e => by
  simp only [gNm, Option.some.injEq, Prod.mk.injEq] at e
  obtain ⟨rfl, rfl⟩ := e
  exact ⟨rfl, fun k => k _ (S.set i V) (wipe_set hi)⟩⟩
theorem tgok_2 {K : PySem.W.Frag} {vs : List Nat} {i j : Nat} (hi : i ∈ vs) (hj : j ∈ vs) : TgOk K vs (gTup K 2 (gCons (gName i) (gCons (gName j) gNil))) (gTp 2 (gsCons (gNm i) (gsCons (gNm j) gsNil))) := ⟨fun r w s h v s1 h1 u z H Q R S V e => by
  unfold gTp at e
  split at e
  · rename_i xs
    split at e
    · rename_i hl
      match xs, hl with
      | [x, y], _ =>
        simp only [gsCons, gNm, gsNil, Option.some.injEq, Prod.mk.injEq] at e
        obtain ⟨rfl, rfl⟩ := e
        refine ⟨rfl, fun k => ?_⟩
        simp only [VR] at V
        obtain ⟨a, us, rfl, t, q⟩ := V
        obtain ⟨u1, u2, rfl, q1, q2⟩ := vrs2 q
        exact ⟨a, _, rfl, t.sq, rfl, u1, [u2], rfl, u2, [], rfl, rfl, k _ ((S.set i q1).set j q2) (by rw [wipe_set hj, wipe_set hi])⟩
    · cases e
  · rename_i xs
    split at e
    · rename_i hl
      match xs, hl with
      | [x, y], _ =>
        simp only [gsCons, gNm, gsNil, Option.some.injEq, Prod.mk.injEq] at e
        obtain ⟨rfl, rfl⟩ := e
        refine ⟨rfl, fun k => ?_⟩
        simp only [VR] at V
        obtain ⟨a, us, rfl, t, q⟩ := V
        obtain ⟨u1, u2, rfl, q1, q2⟩ := vrs2 q
        exact ⟨a, _, rfl, t.sq, rfl, u1, [u2], rfl, u2, [], rfl, rfl, k _ ((S.set i q1).set j q2) (by rw [wipe_set hj, wipe_set hi])⟩
    · cases e
  · cases e⟩
theorem tgok_3 {K : PySem.W.Frag} {vs : List Nat} {i j l : Nat} (hi : i ∈ vs) (hj : j ∈ vs) (hl : l ∈ vs) : TgOk K vs (gTup K 3 (gCons (gName i) (gCons (gName j) (gCons (gName l) gNil)))) (gTp 3 (gsCons (gNm i) (gsCons (gNm j) (gsCons (gNm l) gsNil)))) := ⟨fun r w s h v s1 h1 u z H Q R S V e => by
  unfold gTp at e
  split at e
  · rename_i xs
    split at e
    · rename_i hl3
      match xs, hl3 with
      | [x, y, x3], _ =>
        simp only [gsCons, gNm, gsNil, Option.some.injEq, Prod.mk.injEq] at e
        obtain ⟨rfl, rfl⟩ := e
        refine ⟨rfl, fun k => ?_⟩
        simp only [VR] at V
        obtain ⟨a, us, rfl, t, q⟩ := V
        simp only [VRs] at q
        obtain ⟨u1, t1, rfl, q1, u2, t2, rfl, q2, u3, t3, rfl, q3, rfl⟩ := q
        exact ⟨a, _, rfl, t.sq, rfl, u1, [u2, u3], rfl, u2, [u3], rfl, u3, [], rfl, rfl, k _ (((S.set i q1).set j q2).set l q3) (by rw [wipe_set hl, wipe_set hj, wipe_set hi])⟩
    · cases e
  · rename_i xs
    split at e
    · rename_i hl3
      match xs, hl3 with
      | [x, y, x3], _ =>
        simp only [gsCons, gNm, gsNil, Option.some.injEq, Prod.mk.injEq] at e
        obtain ⟨rfl, rfl⟩ := e
        refine ⟨rfl, fun k => ?_⟩
        simp only [VR] at V
        obtain ⟨a, us, rfl, t, q⟩ := V
        simp only [VRs] at q
        obtain ⟨u1, t1, rfl, q1, u2, t2, rfl, q2, u3, t3, rfl, q3, rfl⟩ := q
        exact ⟨a, _, rfl, t.sq, rfl, u1, [u2, u3], rfl, u2, [u3], rfl, u3, [], rfl, rfl, k _ (((S.set i q1).set j q2).set l q3) (by rw [wipe_set hl, wipe_set hj, wipe_set hi])⟩
    · cases e
  · cases e⟩
theorem lc_vals {K : PySem.W.Frag} {J : It} {g : TG} {gm : XG} {c : XT} {e : XE} {own : List Nat} {xs : List MV} {r w : List Addr} {s : SM} {h h' : MH} {H : Hp} {z : L2.St} {D : Addr} {ys : List MV} {Q : VK} (Wk : Walks K J xs r w H) (tg : TgOk K own g gm)
    (R : Rel K r w h H) (S : SR K r w H s z) (hD : H D = none) (ev : lcGo gm c e [] xs (wipeM s own) h = some (ys, h')) (C : ContF K r w h' H (.lst ys) Q) :
    ∃ W : Nat → Nat → Hp → Prop, (∃ m, W 0 m (upd H D (.lst []))) ∧ ∀ i m H, W i m H → (J.stop i H ∧ Q (.ref D) H) ∨ (J.go i H ∧ ∃ Nx : Hp → Prop, (∀ H', Nx H' → ∃ m', m' < m ∧ W (i + 1) m' H') ∧
      ∀ x H', J.yld i H x H' → g x (L2.wipe z own) H' fun z2 H2 => L2.wipe z2 own = L2.wipe z own ∧ tT K c z2 H2 fun b H3 => if b = true then tM K e z2 H3 fun y H4 => ∃ acc, H4 D = some (.lst acc) ∧ acc.length < sizeLine ∧ Nx (upd H4 D (.lst (acc ++ [y]))) else Nx H3) := by
  have nD : D ∉ w := R.ninw hD
  -- the state at turn i: what is made so far
  let I : Nat → List MV → Hp → Prop := fun i acc H1 => ∃ r1 h1 us, Fwd r H r1 H1 ∧ Rel K r1 (D :: w) h1 H1 ∧ SR K r1 (D :: w) H1 (wipeM s own) (L2.wipe z own) ∧ H1 D = some (.lst us) ∧ VRs K r1 (D :: w) H1 acc us ∧ lcGo gm c e acc (xs.drop i) (wipeM s own) h1 = some (ys, h')
  refine ⟨fun i n H1 => n = xs.length - i ∧ i ≤ xs.length ∧ ∃ acc, I i acc H1, ⟨_, rfl, Nat.zero_le _, [], r, h, [], Fwd.new r hD, R.hold hD, (S.map (Stp.hold R hD)).wipe own, upd_same, by simp [VRs], by simpa using ev⟩, ?_⟩
  rintro i n H1 ⟨rfl, hi, acc, r1, h1, us, F1, R1, S1, eD, V1, e1⟩
  have st : Stp r w H r1 (D :: w) H1 := ⟨fun n a hn => F1.at_ hn, fun a o n ea => ⟨⟨F1.nin n.1 ea, fun hm => by
    rcases List.mem_cons.mp hm with q | q
    · rw [q, hD] at ea; cases ea
    · exact n.2 q⟩, .inl (F1.keep a o n.1 ea)⟩⟩
  by_cases hl : i < xs.length
  · obtain ⟨hgo, hy⟩ := Wk.at_ i r1 _ H1 h1 F1 st R1 hl
    refine .inr ⟨hgo, fun H2 => ∃ acc, I (i + 1) acc H2, fun H2 q => ⟨xs.length - (i + 1), by omega, rfl, hl, q⟩, fun x H2 hx => ?_⟩
    obtain ⟨F2, R2, v, ex, Vv⟩ := hy x H2 hx
    have F12 : Fwd r H r1 H2 := F1.tr R1 F2
    have ed : xs.drop i = v :: xs.drop (i + 1) := by
      rw [List.drop_eq_getElem_cons hl]
      rw [List.getElem?_eq_getElem hl] at ex
      cases ex; rfl
    rw [ed] at e1
    simp only [lcGo] at e1
    cases e2 : gm v (wipeM s own) h1 with
    | none => simp [e2] at e1
    | some p2 =>
      obtain ⟨s3, h3⟩ := p2
      simp only [e2] at e1
      have nDr : D ∉ r1 := (R1.wh D List.mem_cons_self).1
      have eD2 : H2 D = some (.lst us) := F2.keep D _ nDr eD
      have V2 := VRs.fwd F2 _ _ V1
      have S2 := S1.fwd F2
      obtain ⟨rfl, kg⟩ := tg.at_ r1 (D :: w) _ h1 v s3 h3 x _ H2 _ R2 S2 Vv e2
      refine kg fun z3 S3 wz => ⟨by rw [wz, show L2.wipe (L2.wipe z own) own = L2.wipe z own from by
        apply List.ext_getElem?
        intro j
        rw [wipe_get, wipe_get, wipe_length]
        split <;> rfl], ?_⟩
      cases e3 : c s3 h3 with
      | none => simp [e3] at e1
      | some p3 =>
        obtain ⟨b, h4⟩ := p3
        refine ⟨r1, _, s3, h3, b, h4, R2, S3, e3, fun r4 H4 F4 R4 => ?_⟩
        have F14 := F12.tr R2 F4
        have eD4 : H4 D = some (.lst us) := F4.keep D _ nDr eD2
        have V4 := VRs.fwd F4 _ _ V2
        cases b with
        | false =>
          simp only [e3] at e1
          exact iteF ⟨acc, r4, h4, us, F14, R4, S2.fwd F4, eD4, V4, e1⟩
        | true =>
          simp only [e3] at e1
          cases e5 : e s3 h4 with
          | none => simp [e5] at e1
          | some p5 =>
            obtain ⟨v5, h5⟩ := p5
            simp only [e5] at e1
            split at e1
            · rename_i hz
              refine iteT ⟨r4, _, s3, h4, v5, h5, R4, S3.fwd F4, e5, fun r5 u5 H5 F5 R5 V5 => ?_⟩
              have nDr4 : D ∉ r4 := (R4.wh D List.mem_cons_self).1
              have eD5 : H5 D = some (.lst us) := F5.keep D _ nDr4 eD4
              have V5' := VRs.fwd F5 _ _ V4
              have hm : D ∈ D :: w := List.mem_cons_self
              have F15 := F14.tr R4 F5
              refine ⟨us, eD5, by rw [← VRs.length V5', ← szl]; exact hz, acc ++ [v5], r5, h5, us ++ [u5], ⟨F15.ext, fun a o n ea => ?_, fun a o u ea => ?_⟩, R5.held hm, ((S2.fwd F4).fwd F5).map (Stp.held hm), upd_same, VRs.map (Stp.held hm) _ _ (VRs.append V5' (VRs.one V5)), e1⟩
              · rw [upd_ne (ne_of_none ea hD)]; exact F15.keep a o n ea
              · rw [upd_ne (ne_of_none ea hD)]; exact F15.frz a o u ea
            · cases e1
  · have e0 : xs.drop i = [] := List.drop_eq_nil_of_le (by omega)
    rw [e0] at e1
    simp only [lcGo, Option.some.injEq, Prod.mk.injEq] at e1
    obtain ⟨rfl, rfl⟩ := e1
    refine .inl ⟨Wk.stop i r1 _ H1 h1 F1 st R1 (by omega), C r1 D H1 F1 hD R1 ?_⟩
    simp only [VF]
    exact ⟨us, eD, V1⟩
theorem lc_cell {K : PySem.W.Frag} {J : It} {g : TG} {gm : XG} {c : XT} {e : XE} {own : List Nat} {nc t : Nat} {r w : List Addr} {s : SM} {h h' : MH} {H : Hp} {z : L2.St} {D : Addr} {ys : List MV} {Q : VK} (Wk : WalksC K J nc r w H) (tg : TgOk K own g gm)
    (R : Rel K r w h H) (S : SR K r w H s z) (hD : H D = none) (ev : lcCell gm c e nc t 0 [] (wipeM s own) h = some (ys, h')) (C : ContF K r w h' H (.lst ys) Q) :
    ∃ W : Nat → Nat → Hp → Prop, (∃ m, W 0 m (upd H D (.lst []))) ∧ ∀ i m H, W i m H → (J.stop i H ∧ Q (.ref D) H) ∨ (J.go i H ∧ ∃ Nx : Hp → Prop, (∀ H', Nx H' → ∃ m', m' < m ∧ W (i + 1) m' H') ∧
      ∀ x H', J.yld i H x H' → g x (L2.wipe z own) H' fun z2 H2 => L2.wipe z2 own = L2.wipe z own ∧ tT K c z2 H2 fun b H3 => if b = true then tM K e z2 H3 fun y H4 => ∃ acc, H4 D = some (.lst acc) ∧ acc.length < sizeLine ∧ Nx (upd H4 D (.lst (acc ++ [y]))) else Nx H3) := by
  have nD : D ∉ w := R.ninw hD
  let I : Nat → Nat → List MV → Hp → Prop := fun i m acc H1 => ∃ r1 h1 us, Fwd r H r1 H1 ∧ Rel K r1 (D :: w) h1 H1 ∧ SR K r1 (D :: w) H1 (wipeM s own) (L2.wipe z own) ∧ H1 D = some (.lst us) ∧ VRs K r1 (D :: w) H1 acc us ∧ lcCell gm c e nc m i acc (wipeM s own) h1 = some (ys, h')
  refine ⟨fun i n H1 => ∃ acc, I i n acc H1, ⟨t, [], r, h, [], Fwd.new r hD, R.hold hD, (S.map (Stp.hold R hD)).wipe own, upd_same, by simp [VRs], ev⟩, ?_⟩
  rintro i n H1 ⟨acc, r1, h1, us, F1, R1, S1, eD, V1, e1⟩
  have st : Stp r w H r1 (D :: w) H1 := ⟨fun n a hn => F1.at_ hn, fun a o n ea => ⟨⟨F1.nin n.1 ea, fun hm => by
    rcases List.mem_cons.mp hm with q | q
    · rw [q, hD] at ea; cases ea
    · exact n.2 q⟩, .inl (F1.keep a o n.1 ea)⟩⟩
  cases n with
  | zero => simp [lcCell] at e1
  | succ n =>
    simp only [lcCell] at e1
    split at e1
    · rename_i xs e0
      cases ex : xs[i]? with
      | none =>
        simp only [ex, Option.some.injEq, Prod.mk.injEq] at e1
        obtain ⟨rfl, rfl⟩ := e1
        refine .inl ⟨Wk.stop i r1 _ H1 h1 xs st R1 e0 ex, C r1 D H1 F1 hD R1 ?_⟩
        simp only [VF]
        exact ⟨us, eD, V1⟩
      | some v =>
        simp only [ex] at e1
        obtain ⟨hgo, hy⟩ := Wk.at_ i r1 _ H1 h1 xs v st R1 e0 ex
        refine .inr ⟨hgo, fun H2 => ∃ acc, I (i + 1) n acc H2, fun H2 q => ⟨n, Nat.lt_succ_self n, q⟩, fun x H2 hx => ?_⟩
        obtain ⟨eH, Vv⟩ := hy x H2 hx
        subst eH
        cases e2 : gm v (wipeM s own) h1 with
        | none => simp [e2] at e1
        | some p2 =>
          obtain ⟨s3, h3⟩ := p2
          simp only [e2] at e1
          have nDr : D ∉ r1 := (R1.wh D List.mem_cons_self).1
          obtain ⟨rfl, kg⟩ := tg.at_ r1 (D :: w) _ h1 v s3 h3 x _ H2 _ R1 S1 Vv e2
          refine kg fun z3 S3 wz => ⟨by rw [wz, show L2.wipe (L2.wipe z own) own = L2.wipe z own from by
            apply List.ext_getElem?
            intro j
            rw [wipe_get, wipe_get, wipe_length]
            split <;> rfl], ?_⟩
          cases e3 : c s3 h3 with
          | none => simp [e3] at e1
          | some p3 =>
            obtain ⟨b, h4⟩ := p3
            refine ⟨r1, _, s3, h3, b, h4, R1, S3, e3, fun r4 H4 F4 R4 => ?_⟩
            have F14 := F1.tr R1 F4
            have eD4 : H4 D = some (.lst us) := F4.keep D _ nDr eD
            have V4 := VRs.fwd F4 _ _ V1
            cases b with
            | false =>
              simp only [e3] at e1
              exact iteF ⟨acc, r4, h4, us, F14, R4, S1.fwd F4, eD4, V4, e1⟩
            | true =>
              simp only [e3] at e1
              cases e5 : e s3 h4 with
              | none => simp [e5] at e1
              | some p5 =>
                obtain ⟨v5, h5⟩ := p5
                simp only [e5] at e1
                split at e1
                · rename_i hz
                  refine iteT ⟨r4, _, s3, h4, v5, h5, R4, S3.fwd F4, e5, fun r5 u5 H5 F5 R5 V5 => ?_⟩
                  have nDr4 : D ∉ r4 := (R4.wh D List.mem_cons_self).1
                  have eD5 : H5 D = some (.lst us) := F5.keep D _ nDr4 eD4
                  have V5' := VRs.fwd F5 _ _ V4
                  have hm : D ∈ D :: w := List.mem_cons_self
                  have F15 := F14.tr R4 F5
                  refine ⟨us, eD5, by rw [← VRs.length V5', ← szl]; exact hz, acc ++ [v5], r5, h5, us ++ [u5], ⟨F15.ext, fun a o n ea => ?_, fun a o u ea => ?_⟩, R5.held hm, ((S1.fwd F4).fwd F5).map (Stp.held hm), upd_same, VRs.map (Stp.held hm) _ _ (VRs.append V5' (VRs.one V5)), e1⟩
                  · rw [upd_ne (ne_of_none ea hD)]; exact F15.keep a o n ea
                  · rw [upd_ne (ne_of_none ea hD)]; exact F15.frz a o u ea
                · cases e1
    · cases e1
/-- the reading of a comprehension -/
theorem lc_wk {K : PySem.W.Frag} {g : TG} {gm : XG} {c : XT} {e : XE} {own : List Nat} {it : XI} (tg : TgOk K own g gm) : ∀ z H Q, tF K (xLc it gm c e own) z H Q → tLc (tI K it) g (tT K c) (tM K e) own z H Q := fun z H Q ⟨r, w, s, h, v, h', R, S, ev, C⟩ => by
  unfold xLc at ev
  cases e1 : it s h with
  | none => simp [e1] at ev
  | some p1 =>
    obtain ⟨k, h1⟩ := p1
    simp only [e1] at ev
    refine ⟨r, w, s, h, k, h1, R, S, e1, fun r1 J H1 F1 R1 Wk D hD => ?_⟩
    cases k with
    | vals xs =>
      simp only at ev
      cases e2 : lcGo gm c e [] xs (wipeM s own) h1 with
      | none => simp [e2] at ev
      | some p2 =>
        obtain ⟨ys, h2⟩ := p2
        simp only [e2, Option.some.injEq, Prod.mk.injEq] at ev
        obtain ⟨rfl, rfl⟩ := ev
        exact lc_vals Wk tg R1 (S.fwd F1) hD e2 (C.fwd F1 R1)
    | cell n =>
      simp only at ev
      cases e2 : fuel fun t => lcCell gm c e n t 0 [] (wipeM s own) h1 with
      | none => simp [e2] at ev
      | some p2 =>
        obtain ⟨ys, h2⟩ := p2
        simp only [e2, Option.some.injEq, Prod.mk.injEq] at ev
        obtain ⟨rfl, rfl⟩ := ev
        obtain ⟨t, e2⟩ := fuel_at e2
        exact lc_cell Wk tg R1 (S.fwd F1) hD e2 (C.fwd F1 R1)
abbrev MTs (X : Cx) (ifs : List Expr) (c : XT) : Prop := PTs X ifs (tT X.K c)
theorem mts_nil {X : Cx} : MTs X [] cYes := ⟨fun pins s z H Q I ⟨r, w, s', h, v, h', R, S, e, C⟩ => pts_nil.run pins s z H Q I (by
  simp only [cYes, Option.some.injEq, Prod.mk.injEq] at e
  obtain ⟨rfl, rfl⟩ := e
  exact C r H (Fwd.refl r H) R)⟩
theorem mts_one {X : Cx} {c : Expr} {ta : XT} (h : MT X c ta) : MTs X [c] ta := pts_one h
theorem tF_val {K : PySem.W.Frag} {m : XE} : ∀ z H Q, tM K m z H Q → tF K m z H Q := fun z H Q ⟨r, w, s, h, v, h', R, S, e, C⟩ => ⟨r, w, s, h, v, h', R, S, e, fun r' p H' F n R' q => by
  refine C r' (.ref p) H' F R'.drop (VF.vr R'.drop ⟨(R'.wh p List.mem_cons_self).1, R.ninw n⟩ (VF.map Stp.drop rfl q))⟩
section
variable {X : Cx} {elt tg iter : Expr} {ifs : List Expr} {scope : Scope} {own : List (Str × Nat)} {pos spos : Pos} {it : XI} {g : TG} {gm : XG} {c : XT} {me : XE}
/-- [elt for tg in iter if ..] -/
theorem mf_lc (hN : X.N.Nodup) (hi : MII X tg iter it) (ok : blkC X.N X.env.scope scope own = true) (tk : TgOk X.K (own.map (·.2)) g gm)
    (hg : ∀ (s : Shared) (H : Hp) (C : Addr) (cl : List (Str × Addr)) (fp : List Addr), PG (X.blk s H scope (compEnvC scope cl C X.env) fp) tg g)
    (ht : ∀ (s : Shared) (H : Hp) (C : Addr) (cl : List (Str × Addr)) (fp : List Addr), MTs (X.blk s H scope (compEnvC scope cl C X.env) fp) ifs c)
    (he : ∀ (s : Shared) (H : Hp) (C : Addr) (cl : List (Str × Addr)) (fp : List Addr), ME (X.blk s H scope (compEnvC scope cl C X.env) fp) elt me) (hs : ∀ x, foldedSetIterable iter X.env x = pure x := by intro _; rfl) (hc : X.calm = true := by rfl) :
    MF X (.ListComp elt [⟨tg, iter, ifs, 0⟩] scope pos) (xLc it gm c me (own.map (·.2))) := PE.wk (pe_lc hc hN hi (blkOk_by ok) hg ht he hs) (lc_wk tk)
/-- y = [elt for ..], as a value or as a cell (m) -/
theorem ms_setLc {n : Nat} {y : Str} {py : Pos} {m : XE} (hm : ∀ z H Q, tM X.K m z H Q → tF X.K (xLc it gm c me (own.map (·.2))) z H Q) (hN : X.N.Nodup) (hi : MII X tg iter it) (ok : blkC X.N X.env.scope scope own = true) (tk : TgOk X.K (own.map (·.2)) g gm)
    (hg : ∀ (s : Shared) (H : Hp) (C : Addr) (cl : List (Str × Addr)) (fp : List Addr), PG (X.blk s H scope (compEnvC scope cl C X.env) fp) tg g)
    (ht : ∀ (s : Shared) (H : Hp) (C : Addr) (cl : List (Str × Addr)) (fp : List Addr), MTs (X.blk s H scope (compEnvC scope cl C X.env) fp) ifs c)
    (he : ∀ (s : Shared) (H : Hp) (C : Addr) (cl : List (Str × Addr)) (fp : List Addr), ME (X.blk s H scope (compEnvC scope cl C X.env) fp) elt me)
    (hsw : swapsWith (.ListComp elt [⟨tg, iter, ifs, 0⟩] scope pos) (some (.Name y py)) spos.line X.env = pure true) (hy : X.N[n]? = some y := by rfl) (hyl : X.env.scope.names.lookup y = some .local := by rfl) (hs : ∀ x, foldedSetIterable iter X.env x = pure x := by intro _; rfl) (hc : X.calm = true := by rfl) :
    MS X (.Assign [.Name y py] (.ListComp elt [⟨tg, iter, ifs, 0⟩] scope pos) spos) (sSet n m) := PS.wk (ps_setLc hc hN hy hyl hsw hi (blkOk_by ok) hg ht he hs) fun D z H ⟨r, w, s, h, f, s', h', R, S, e, C⟩ => by
  refine lc_wk tk z H _ (hm z H _ ?_)
  unfold sSet sAsg at e
  cases e1 : m s h with
  | none => simp [e1] at e
  | some p1 =>
    obtain ⟨v, h1⟩ := p1
    simp only [e1, gNm, Option.some.injEq, Prod.mk.injEq] at e
    obtain ⟨rfl, rfl, rfl⟩ := e
    exact ⟨r, w, s, h, v, h1, R, S, e1, fun r1 u H1 F1 R1 V1 => C r1 _ H1 F1 R1 ((S.fwd F1).set n V1)⟩
end
/-! ### defs -/
section
variable (K : PySem.W.Frag)
/-- what a def's function promises; where what it hands back is a fresh list or dict -/
def spM (n : Nat) (g : Fn) : Sp := fun us H Q _ => us.length = n ∧ ∃ r w h vs v h', Rel K r w h H ∧ VRs K r w H vs us ∧ g vs h = some (v, h') ∧ Cont K r w h' H v Q
def spF (n : Nat) (g : Fn) : Sp := fun us H Q _ => us.length = n ∧ ∃ r w h vs v h', Rel K r w h H ∧ VRs K r w H vs us ∧ g vs h = some (v, h') ∧ ContF K r w h' H v Q
end
/-- a def of the text that keeps a promise -/
def Cal (P : Program) (w : World) (K : PySem.W.Frag) (mg : Str → Option Value) (base : Heap) (x : Str) (n : Nat) (sp : Sp) (k : Nat) : Prop :=
  ∃ (f : Addr) (fd : FuncData) (ps : List Str), FnOk P w K mg base CX0 k f fd ps sp ∧ ps.length = n ∧ mg x = some (.ref f) ∧ PySem.W.keepIn K (.ref f) = true ∧ Binds K fd ps []
section
variable {P : Program} {w : World} {K : PySem.W.Frag} {mg : Str → Option Value} {base : Heap} {x : Str} {n k : Nat}
theorem Cal.imp {sp sp' : Sp} (h : Cal P w K mg base x n sp k) (i : ∀ vs H Q E, sp' vs H Q E → sp vs H Q E) : Cal P w K mg base x n sp' k := by
  obtain ⟨f, fd, ps, F, a, b, c, d⟩ := h
  exact ⟨f, fd, ps, F.imp i, a, b, c, d⟩
/-- the def st, its body's function b -/
theorem def_fn {N ps : List Str} {st : Stmt} {f : Addr} {fd : FuncData} {b : XS} (F : L2.Fun K x x st f fd) (S : FnScope N ps (defScope st))
    (body : ∀ (cdv : Value) (A : Around) (outer : List Env) (s : Shared) (H : Hp) (E : XK), Room k (A.deeper (envOfC x (defScope st) s.heap.objs.size f cdv)) →
      MSs (cxOf CX0 P w K mg base N x (defScope st) f cdv A outer s H E).nox (defBody st) b) : FnOk P w K mg base CX0 (k + 1) f fd ps (spM K ps.length (runDef N.length b)) := by
  refine F.ok S (fun vs H Q E h => h.1) (fun cdv A outer s H us Q E hr h => ?_)
  obtain ⟨hl, r, w', hh, vs, v, h', R, V, e, C⟩ := h
  refine ⟨_, body cdv A outer s H E hr, ?_⟩
  have S0 : SR K r w' H (sBegin N.length vs) (L2.start N us) := by
    have hvl := VRs.length V
    refine ⟨by simp [sBegin, L2.start, hvl], fun i y ey => ?_⟩
    unfold sBegin at ey
    unfold L2.start
    by_cases hi : i < vs.length
    · rw [List.getElem?_append_left (by simpa using hi), List.getElem?_map] at ey
      cases ev : vs[i]? with
      | none => rw [ev] at ey; simp at ey
      | some y' =>
        rw [ev] at ey
        simp only [Option.map_some, Option.some.injEq] at ey
        subst ey
        obtain ⟨u, e1, e2⟩ := VRs.get V ev
        refine ⟨u, ?_, e2⟩
        rw [List.getElem?_append_left (by simpa [← hvl] using hi), List.getElem?_map, e1]
        rfl
    · rw [List.getElem?_append_right (by simpa using hi), List.getElem?_replicate] at ey
      split at ey <;> cases ey
  unfold runDef at e
  split at e
  · rename_i v1 s1 h1 e1
    simp only [Option.some.injEq, Prod.mk.injEq] at e
    obtain ⟨rfl, rfl⟩ := e
    exact ⟨r, w', _, hh, .rt v1, s1, h1, R, S0, e1, C⟩
  · rename_i s1 h1 e1
    simp only [Option.some.injEq, Prod.mk.injEq] at e
    obtain ⟨rfl, rfl⟩ := e
    exact ⟨r, w', _, hh, .nx, s1, h1, R, S0, e1, fun r1 z1 H1 F1 R1 S1 => C r1 .non H1 F1 R1 (by simp only [VR])⟩
  · cases e
theorem def_ok {N ps : List Str} {st : Stmt} {f : Addr} {fd : FuncData} {b : XS} (F : L2.Fun K x x st f fd) (hg : mg x = some (.ref f)) (S : FnScope N ps (defScope st))
    (hb : ∀ (kV doc pm : Value) (an : Option Addr) (cdv ct : Value) (us : List Value), us.length = ps.length → bindArgs (PySem.W.fnOf x x (defArgs st) (defBody st) (defScope st) .none kV doc pm an cdv ct) ⟨us, []⟩ = pure (ps.zip us))
    (body : ∀ (cdv : Value) (A : Around) (outer : List Env) (s : Shared) (H : Hp) (E : XK), Room k (A.deeper (envOfC x (defScope st) s.heap.objs.size f cdv)) →
      MSs (cxOf CX0 P w K mg base N x (defScope st) f cdv A outer s H E).nox (defBody st) b) : Cal P w K mg base x ps.length (spM K ps.length (runDef N.length b)) (k + 1) :=
  ⟨f, fd, ps, def_fn F S body, rfl, hg, F.kp, F.binds hb⟩
end
section
variable {X : Cx} {e : Expr} {es : List Expr} {mas : XA} {x : Str} {p pos : Pos} {n k j : Nat} {g : Fn}
theorem me_call (F : Cal X.prog X.w X.K X.mg X.base x n (spM X.K n g) j) (hr : Room k X.A) (ha : MA X (e :: es) mas) (hj : j ≤ k := by decide) (hn : (e :: es).length = n := by rfl) (hg : Gl X x := by rfl) (hdb : (x == ("__debug__" : Str)) = false := by decide +kernel)
    (he : starEach (e :: es) X.env = (false, eval e X.env) :: starEach es X.env := by rfl) (hpl : (backTo pos (starEach es X.env)).any (·.1) = false := by rfl) : ME X (.Call (.Name x p) (e :: es) [] pos) (xCall g mas) := by
  obtain ⟨f, fd, ps, F, hps, hm, hk, hb⟩ := F
  refine PE.wk (pe_call F (hr.mono hj) hg hm hk hb .nil pass0 ha.pa hdb he hpl) fun z H Q ⟨r, w, s, h, v, h', R, S, e, C⟩ => ?_
  unfold xCall at e
  cases e1 : mas s h with
  | none => simp [e1] at e
  | some p1 =>
    obtain ⟨xs, h1⟩ := p1
    simp only [e1] at e
    refine ⟨r, w, s, h, xs, h1, R, S, e1, fun r1 us H1 F1 R1 V1 => ?_⟩
    show spM X.K n g (us ++ []) H1 Q E0
    rw [List.append_nil]
    exact ⟨by rw [← VRs.length V1, ha.len _ _ _ _ e1]; exact hn, r1, w, h1, xs, v, h', R1, V1, e, C.fwd F1 R1⟩
theorem mf_call (F : Cal X.prog X.w X.K X.mg X.base x n (spF X.K n g) j) (hr : Room k X.A) (ha : MA X (e :: es) mas) (hj : j ≤ k := by decide) (hn : (e :: es).length = n := by rfl) (hg : Gl X x := by rfl) (hdb : (x == ("__debug__" : Str)) = false := by decide +kernel)
    (he : starEach (e :: es) X.env = (false, eval e X.env) :: starEach es X.env := by rfl) (hpl : (backTo pos (starEach es X.env)).any (·.1) = false := by rfl) : MF X (.Call (.Name x p) (e :: es) [] pos) (xCall g mas) := by
  obtain ⟨f, fd, ps, F, hps, hm, hk, hb⟩ := F
  refine PE.wk (pe_call F (hr.mono hj) hg hm hk hb .nil pass0 ha.pa hdb he hpl) fun z H Q ⟨r, w, s, h, v, h', R, S, e, C⟩ => ?_
  unfold xCall at e
  cases e1 : mas s h with
  | none => simp [e1] at e
  | some p1 =>
    obtain ⟨xs, h1⟩ := p1
    simp only [e1] at e
    refine ⟨r, w, s, h, xs, h1, R, S, e1, fun r1 us H1 F1 R1 V1 => ?_⟩
    show spF X.K n g (us ++ []) H1 Q E0
    rw [List.append_nil]
    exact ⟨by rw [← VRs.length V1, ha.len _ _ _ _ e1]; exact hn, r1, w, h1, xs, v, h', R1, V1, e, C.fwd F1 R1⟩
theorem me_call0 (F : Cal X.prog X.w X.K X.mg X.base x 0 (spM X.K 0 g) j) (hr : Room k X.A) (hj : j ≤ k := by decide) (hg : Gl X x := by rfl) (hdb : (x == ("__debug__" : Str)) = false := by decide +kernel) : ME X (.Call (.Name x p) [] [] pos) (xCall g xNil) := by
  obtain ⟨f, fd, ps, F, hps, hm, hk, hb⟩ := F
  refine PE.wk (pe_call0 F (hr.mono hj) hg hm hk hb .nil pass0 hdb) fun z H Q ⟨r, w, s, h, v, h', R, S, e, C⟩ => ?_
  simp only [xCall, xNil] at e
  exact ⟨rfl, r, w, h, [], v, h', R, by simp [VRs], e, C⟩
end
end Ew
end

section
set_option Elab.async false
set_option linter.all false
set_option maxRecDepth 100000
set_option maxHeartbeats 4000000
/-! EwI: what a def's function does told to its callers; the law's end. -/
namespace Ew
open PySem PySem.Spec PyProof.Rows L2
variable [Tabs]
section
variable {K : PySem.W.Frag} {r ps w w' : List Addr} {H : Hp} {h2 : MH} {x : Nat}
/-- what stands at a new cell is out of the old ones -/
theorem out_new (R : Rel K (r ++ ps) w h2 H) (hw : ∀ d ∈ w', d ∈ w ∨ (r ++ ps)[x]? = some d) {m : Nat} {a : Addr} (hm : (r ++ ps)[m]? = some a) (hn : r.length ≤ m) (hx : m ≠ x) : Out r w' a := by
  have hl := (List.getElem?_eq_some_iff.mp hm).1
  refine ⟨fun ha => ?_, fun ha => ?_⟩
  · obtain ⟨i, hi⟩ := List.getElem?_of_mem ha
    have hil := (List.getElem?_eq_some_iff.mp hi).1
    have hi2 : (r ++ ps)[i]? = some a := by rw [List.getElem?_append_left hil]; exact hi
    have := (List.getElem?_inj (List.getElem?_eq_some_iff.mp hi2).1 R.nd).mp (hi2.trans hm.symm)
    omega
  · rcases hw a ha with q | q
    · exact (R.wh a q).1 (List.mem_of_getElem? hm)
    · have := (List.getElem?_inj hl R.nd).mp (hm.trans q.symm)
      exact hx this
theorem out_old (hw : ∀ d ∈ w', d ∈ w ∨ (r ++ ps)[x]? = some d) {a : Addr} (n : Out (r ++ ps) w a) : Out r w' a :=
  ⟨fun q => n.1 (List.mem_append_left _ q), fun q => by
    rcases hw a q with z | z
    · exact n.2 z
    · exact n.1 (List.mem_of_getElem? z)⟩
mutual
theorem frz_vr (R : Rel K (r ++ ps) w h2 H) (hw : ∀ d ∈ w', d ∈ w ∨ (r ++ ps)[x]? = some d) : ∀ (y v : MV) (u : V), Frz h2 r.length x v y → VR K (r ++ ps) w H v u → VR K r w' H y u
  | .non, v, u, f, q => by simp only [Frz] at f; subst f; simpa [VR] using q
  | .bl _, v, u, f, q => by simp only [Frz] at f; subst f; simpa [VR] using q
  | .int _, v, u, f, q => by simp only [Frz] at f; subst f; simpa [VR] using q
  | .str _, v, u, f, q => by simp only [Frz] at f; subst f; simpa [VR] using q
  | .scr _, v, u, f, q => by
    simp only [Frz] at f; subst f
    simp only [VR] at q ⊢
    obtain ⟨a, e, q⟩ := q
    rcases q with ⟨n, q⟩ | q
    · exact ⟨a, e, .inl ⟨out_old hw n, q⟩⟩
    · exact ⟨a, e, .inr q⟩
  | .ref m, v, u, f, q => by
    simp only [Frz] at f
    obtain ⟨rfl, hm⟩ := f
    simp only [VR] at q ⊢
    obtain ⟨a, e, q⟩ := q
    rw [List.getElem?_append_left hm] at q
    exact ⟨a, e, q⟩
  | .tup ys, v, u, f, q => by
    simp only [Frz] at f
    obtain ⟨xs, rfl, f⟩ := f
    simp only [VR] at q ⊢
    obtain ⟨a, us, e, t, q⟩ := q
    exact ⟨a, us, e, ⟨out_old hw t.1, t.2⟩, frzs_vr R hw ys xs us f q⟩
  | .row ys, v, u, f, q => by
    simp only [Frz] at f
    obtain ⟨xs, rfl, f⟩ := f
    simp only [VR] at q ⊢
    obtain ⟨a, us, e, t, q⟩ := q
    exact ⟨a, us, e, ⟨out_old hw t.1, t.2⟩, frzs_vr R hw ys xs us f q⟩
  | .lst ys, v, u, f, q => by
    simp only [Frz] at f
    rcases f with ⟨xs, rfl, f⟩ | ⟨m, xs, rfl, hn, hx, hm, f⟩
    · simp only [VR] at q ⊢
      obtain ⟨a, us, e, n, t, q⟩ := q
      exact ⟨a, us, e, out_old hw n, t, frzs_vr R hw ys xs us f q⟩
    · simp only [VR] at q ⊢
      obtain ⟨a, e, q⟩ := q
      have hc := R.at_ m a _ q hm
      simp only [CRel] at hc
      obtain ⟨us, t, qs⟩ := hc
      exact ⟨a, us, e, out_new R hw q hn hx, t, frzs_vr R hw ys xs us f qs⟩
  | .dK ys, v, u, f, q => by
    simp only [Frz] at f
    rcases f with ⟨xs, rfl, f⟩ | ⟨m, xs, rfl, hn, hx, hm, f⟩
    · simp only [VR] at q ⊢
      obtain ⟨a, us, e, n, t, q⟩ := q
      exact ⟨a, us, e, out_old hw n, t, frzk_vr R hw ys xs us f q⟩
    · simp only [VR] at q ⊢
      obtain ⟨a, e, q⟩ := q
      have hc := R.at_ m a _ q hm
      simp only [CRel] at hc
      obtain ⟨us, t, qs⟩ := hc
      exact ⟨a, us, e, out_new R hw q hn hx, .inl t, frzk_vr R hw ys xs us f qs⟩
  | .dT ys, v, u, f, q => by
    simp only [Frz] at f
    rcases f with ⟨xs, rfl, f⟩ | ⟨m, xs, rfl, hn, hx, hm, f⟩
    · simp only [VR] at q ⊢
      obtain ⟨a, us, e, n, t, q⟩ := q
      exact ⟨a, us, e, out_old hw n, t, frzt_vr R hw ys xs us f q⟩
    · simp only [VR] at q ⊢
      obtain ⟨a, e, q⟩ := q
      have hc := R.at_ m a _ q hm
      simp only [CRel] at hc
      obtain ⟨us, t, qs⟩ := hc
      exact ⟨a, us, e, out_new R hw q hn hx, .inl t, frzt_vr R hw ys xs us f qs⟩
theorem frzs_vr (R : Rel K (r ++ ps) w h2 H) (hw : ∀ d ∈ w', d ∈ w ∨ (r ++ ps)[x]? = some d) : ∀ (y v : List MV) (u : List V), Frzs h2 r.length x v y → VRs K (r ++ ps) w H v u → VRs K r w' H y u
  | [], v, u, f, q => by simp only [Frzs] at f; subst f; simpa [VRs] using q
  | y :: ys, v, u, f, q => by
    simp only [Frzs] at f
    obtain ⟨v1, vs, rfl, f1, f2⟩ := f
    simp only [VRs] at q ⊢
    obtain ⟨u1, t, rfl, q1, q2⟩ := q
    exact ⟨u1, t, rfl, frz_vr R hw y v1 u1 f1 q1, frzs_vr R hw ys vs t f2 q2⟩
theorem frzk_vr (R : Rel K (r ++ ps) w h2 H) (hw : ∀ d ∈ w', d ∈ w ∨ (r ++ ps)[x]? = some d) : ∀ (y v : List (MK × MV)) (u : List (Key × V)), Frzk h2 r.length x v y → VRk K (r ++ ps) w H v u → VRk K r w' H y u
  | [], v, u, f, q => by simp only [Frzk] at f; subst f; simpa [VRk] using q
  | (k, y) :: ys, v, u, f, q => by
    simp only [Frzk] at f
    obtain ⟨v1, vs, rfl, f1, f2⟩ := f
    simp only [VRk] at q ⊢
    obtain ⟨u1, t, rfl, q1, q2⟩ := q
    exact ⟨u1, t, rfl, frz_vr R hw y v1 u1 f1 q1, frzk_vr R hw ys vs t f2 q2⟩
theorem frzt_vr (R : Rel K (r ++ ps) w h2 H) (hw : ∀ d ∈ w', d ∈ w ∨ (r ++ ps)[x]? = some d) : ∀ (y v : List (List MK × MV)) (u : List (List Key × V)), Frzt h2 r.length x v y → VRt K (r ++ ps) w H v u → VRt K r w' H y u
  | [], v, u, f, q => by simp only [Frzt] at f; subst f; simpa [VRt] using q
  | (k, y) :: ys, v, u, f, q => by
    simp only [Frzt] at f
    obtain ⟨v1, vs, rfl, f1, f2⟩ := f
    simp only [VRt] at q ⊢
    obtain ⟨u1, t, rfl, q1, q2⟩ := q
    exact ⟨u1, t, rfl, frz_vr R hw y v1 u1 f1 q1, frzt_vr R hw ys vs t f2 q2⟩
end
/-! what stood already speaks of what stood already -/
mutual
theorem vr_old {H0 : Hp} {w0 : List Addr} (R : Rel K (r ++ ps) w h2 H) (hw : ∀ d ∈ w', d ∈ w ∨ (r ++ ps)[x]? = some d) : ∀ (v : MV) (u0 u : V), VR K r w0 H0 v u0 → VR K (r ++ ps) w H v u → VR K r w' H v u
  | .non, _, u, f, q => by simpa [VR] using q
  | .bl _, _, u, f, q => by simpa [VR] using q
  | .int _, _, u, f, q => by simpa [VR] using q
  | .str _, _, u, f, q => by simpa [VR] using q
  | .scr _, _, u, f, q => by
    simp only [VR] at q ⊢
    obtain ⟨a, e, q⟩ := q
    rcases q with ⟨n, q⟩ | q
    · exact ⟨a, e, .inl ⟨out_old hw n, q⟩⟩
    · exact ⟨a, e, .inr q⟩
  | .ref m, u0, u, f, q => by
    simp only [VR] at f q ⊢
    obtain ⟨a0, _, hm⟩ := f
    obtain ⟨a, e, q⟩ := q
    rw [List.getElem?_append_left (List.getElem?_eq_some_iff.mp hm).1] at q
    exact ⟨a, e, q⟩
  | .tup ys, u0, u, f, q => by
    simp only [VR] at f q ⊢
    obtain ⟨_, us0, _, _, f⟩ := f
    obtain ⟨a, us, e, t, q⟩ := q
    exact ⟨a, us, e, ⟨out_old hw t.1, t.2⟩, vrs_old R hw ys us0 us f q⟩
  | .row ys, u0, u, f, q => by
    simp only [VR] at f q ⊢
    obtain ⟨_, us0, _, _, f⟩ := f
    obtain ⟨a, us, e, t, q⟩ := q
    exact ⟨a, us, e, ⟨out_old hw t.1, t.2⟩, vrs_old R hw ys us0 us f q⟩
  | .lst ys, u0, u, f, q => by
    simp only [VR] at f q ⊢
    obtain ⟨_, us0, _, _, _, f⟩ := f
    obtain ⟨a, us, e, n, t, q⟩ := q
    exact ⟨a, us, e, out_old hw n, t, vrs_old R hw ys us0 us f q⟩
  | .dK ys, u0, u, f, q => by
    simp only [VR] at f q ⊢
    obtain ⟨_, us0, _, _, _, f⟩ := f
    obtain ⟨a, us, e, n, t, q⟩ := q
    exact ⟨a, us, e, out_old hw n, t, vrk_old R hw ys us0 us f q⟩
  | .dT ys, u0, u, f, q => by
    simp only [VR] at f q ⊢
    obtain ⟨_, us0, _, _, _, f⟩ := f
    obtain ⟨a, us, e, n, t, q⟩ := q
    exact ⟨a, us, e, out_old hw n, t, vrt_old R hw ys us0 us f q⟩
theorem vrs_old {H0 : Hp} {w0 : List Addr} (R : Rel K (r ++ ps) w h2 H) (hw : ∀ d ∈ w', d ∈ w ∨ (r ++ ps)[x]? = some d) : ∀ (v : List MV) (u0 u : List V), VRs K r w0 H0 v u0 → VRs K (r ++ ps) w H v u → VRs K r w' H v u
  | [], _, u, f, q => by simpa [VRs] using q
  | y :: ys, u0, u, f, q => by
    simp only [VRs] at f q ⊢
    obtain ⟨_, _, _, f1, f2⟩ := f
    obtain ⟨u1, t, rfl, q1, q2⟩ := q
    exact ⟨u1, t, rfl, vr_old R hw y _ u1 f1 q1, vrs_old R hw ys _ t f2 q2⟩
theorem vrk_old {H0 : Hp} {w0 : List Addr} (R : Rel K (r ++ ps) w h2 H) (hw : ∀ d ∈ w', d ∈ w ∨ (r ++ ps)[x]? = some d) : ∀ (v : List (MK × MV)) (u0 u : List (Key × V)), VRk K r w0 H0 v u0 → VRk K (r ++ ps) w H v u → VRk K r w' H v u
  | [], _, u, f, q => by simpa [VRk] using q
  | (k, y) :: ys, u0, u, f, q => by
    simp only [VRk] at f q ⊢
    obtain ⟨_, _, _, f1, f2⟩ := f
    obtain ⟨u1, t, rfl, q1, q2⟩ := q
    exact ⟨u1, t, rfl, vr_old R hw y _ u1 f1 q1, vrk_old R hw ys _ t f2 q2⟩
theorem vrt_old {H0 : Hp} {w0 : List Addr} (R : Rel K (r ++ ps) w h2 H) (hw : ∀ d ∈ w', d ∈ w ∨ (r ++ ps)[x]? = some d) : ∀ (v : List (List MK × MV)) (u0 u : List (List Key × V)), VRt K r w0 H0 v u0 → VRt K (r ++ ps) w H v u → VRt K r w' H v u
  | [], _, u, f, q => by simpa [VRt] using q
  | (k, y) :: ys, u0, u, f, q => by
    simp only [VRt] at f q ⊢
    obtain ⟨_, _, _, f1, f2⟩ := f
    obtain ⟨u1, t, rfl, q1, q2⟩ := q
    exact ⟨u1, t, rfl, vr_old R hw y _ u1 f1 q1, vrt_old R hw ys _ t f2 q2⟩
end
theorem crel_old {H0 : Hp} {w0 : List Addr} (R : Rel K (r ++ ps) w h2 H) (hw : ∀ d ∈ w', d ∈ w ∨ (r ++ ps)[x]? = some d) {a a0 : Addr} {c : MC} (f : CRel K r w0 H0 a0 c) (q : CRel K (r ++ ps) w H a c) : CRel K r w' H a c := by
  cases c <;> simp only [CRel] at f q ⊢
  · obtain ⟨us0, _, f⟩ := f; obtain ⟨us, e, q⟩ := q; exact ⟨us, e, vrs_old R hw _ us0 us f q⟩
  · obtain ⟨us0, _, f⟩ := f; obtain ⟨us, e, q⟩ := q; exact ⟨us, e, vrk_old R hw _ us0 us f q⟩
  · obtain ⟨us0, _, f⟩ := f; obtain ⟨us, e, q⟩ := q; exact ⟨us, e, vrt_old R hw _ us0 us f q⟩
  · obtain ⟨_, us0, _, f⟩ := f; obtain ⟨o, us, e, q⟩ := q; exact ⟨o, us, e, vrk_old R hw _ us0 us f q⟩
  · obtain ⟨_, us0, _, f⟩ := f; obtain ⟨o, us, e, q⟩ := q; exact ⟨o, us, e, vrt_old R hw _ us0 us f q⟩
  · obtain ⟨e, ps, q1, q2, q3⟩ := q
    refine ⟨e, ps, q1, q2, fun pos cv hc => ?_⟩
    obtain ⟨c, e1, n, e2⟩ := q3 pos cv hc
    exact ⟨c, e1, out_old hw n, e2⟩
theorem crel_frz (R : Rel K (r ++ ps) w h2 H) (hw : ∀ d ∈ w', d ∈ w ∨ (r ++ ps)[x]? = some d) {a : Addr} {c2 c : MC} (f : CFrz h2 r.length x c2 c) (q : CRel K (r ++ ps) w H a c2) : CRel K r w' H a c := by
  cases c <;> cases c2 <;> simp only [CFrz] at f <;> simp only [CRel] at q ⊢
  · obtain ⟨us, e, q⟩ := q; exact ⟨us, e, frzs_vr R hw _ _ us f q⟩
  · obtain ⟨us, e, q⟩ := q; exact ⟨us, e, frzk_vr R hw _ _ us f q⟩
  · obtain ⟨us, e, q⟩ := q; exact ⟨us, e, frzt_vr R hw _ _ us f q⟩
  · obtain ⟨o, us, e, q⟩ := q; exact ⟨o, us, e, frzk_vr R hw _ _ us f q⟩
  · obtain ⟨o, us, e, q⟩ := q; exact ⟨o, us, e, frzt_vr R hw _ _ us f q⟩
/-- the cells that stood -/
theorem rel_cel {h h' : MH} {H0 : Hp} (R0 : Rel K r w h H0) (R : Rel K (r ++ ps) w h2 H) (hw : ∀ d ∈ w', d ∈ w ∨ (r ++ ps)[x]? = some d) (hx : ∀ d, (r ++ ps)[x]? = some d → d ∉ r) (c : CelOK h h2 h' x) (nd : ∀ d ∈ w', ∃ o, H d = some o) : Rel K r w' h' H := by
  obtain ⟨l1, l2, l3⟩ := c
  refine ⟨by rw [l1]; exact R0.len, R0.nd, fun i a c' hi hc' => ?_, fun d hd => ⟨?_, nd d hd⟩⟩
  · have hi2 : (r ++ ps)[i]? = some a := by rw [List.getElem?_append_left (List.getElem?_eq_some_iff.mp hi).1]; exact hi
    rcases l3 i c' hc' with ⟨e1, e2⟩ | ⟨c2, e1, e2⟩
    · exact crel_old R hw (R0.at_ i a c' hi e2) (R.at_ i a c' hi2 e1)
    · rw [← R0.len] at e2
      exact crel_frz R hw e2 (R.at_ i a c2 hi2 e1)
  · rcases hw d hd with q | q
    · exact fun z => (R.wh d q).1 (List.mem_append_left _ z)
    · exact hx d q
end
section
variable {P : Program} {w : World} {K : PySem.W.Frag} {mg : Str → Option Value} {base : Heap} {x : Str} {n k : Nat} {g c : Fn}
theorem Cal.told (F : Cal P w K mg base x n (spM K n g) k) (hc : ∀ args h v h', c args h = some (v, h') → FrzOK g args h v h') : Cal P w K mg base x n (spM K n c) k := F.imp fun us H Q E ⟨hl, r, w', h, vs, v, h', R, V, e, C⟩ => by
  obtain ⟨v2, h2, e2, cel, fz⟩ := hc vs h v h' e
  refine ⟨hl, r, w', h, vs, v2, h2, R, V, e2, fun r2 u H2 F2 R2 V2 => ?_⟩
  obtain ⟨⟨ps, rfl, hps⟩, kp, fr⟩ := F2
  have hx : ∀ d, (r ++ ps)[h2.length]? = some d → False := fun d e => by
    have := (List.getElem?_eq_some_iff.mp e).1
    rw [R2.len] at this
    omega
  rw [← R.len] at fz
  have hw : ∀ d ∈ w', d ∈ w' ∨ (r ++ ps)[h2.length]? = some d := fun d hd => .inl hd
  refine C r u H2 ⟨⟨[], by simp, fun _ z => nomatch z⟩, kp, fr⟩ (rel_cel R R2 hw (fun d e => (hx d e).elim) cel fun d hd => (R2.wh d hd).2) (frz_vr R2 hw v v2 u fz V2)
theorem Cal.fresh (F : Cal P w K mg base x n (spM K n g) k) (hc : ∀ args h v h', c args h = some (v, h') → FrzF g args h v h') : Cal P w K mg base x n (spF K n c) k := F.imp fun us H Q E ⟨hl, r, w', h, vs, v, h', R, V, e, C⟩ => by
  obtain ⟨m, c2, h2, e2, hm, em, cel, fz⟩ := hc vs h v h' e
  refine ⟨hl, r, w', h, vs, .ref m, h2, R, V, e2, fun r2 u H2 F2 R2 V2 => ?_⟩
  obtain ⟨⟨ps, rfl, hps⟩, kp, fr⟩ := F2
  simp only [VR] at V2
  obtain ⟨p, rfl, hp⟩ := V2
  have hpps : p ∈ ps := by
    rw [List.getElem?_append_right (by rw [R.len]; exact hm)] at hp
    exact List.mem_of_getElem? hp
  have hp0 : H p = none := hps p hpps
  have hpr : p ∉ r := R.nin hp0
  have hw : ∀ d ∈ p :: w', d ∈ w' ∨ (r ++ ps)[m]? = some d := fun d hd => by
    rcases List.mem_cons.mp hd with rfl | hd
    · exact .inr hp
    · exact .inl hd
  have hc2 := R2.at_ m p c2 hp em
  rw [← R.len] at fz
  have Rn : Rel K r (p :: w') h' H2 := rel_cel R R2 hw (fun d e => by rw [hp] at e; cases e; exact hpr) cel fun d hd => by
    rcases List.mem_cons.mp hd with rfl | hd
    · exact hc2.there
    · exact (R2.wh d hd).2
  refine C r p H2 ⟨⟨[], by simp, fun _ z => nomatch z⟩, kp, fr⟩ hp0 Rn ?_
  cases c2 <;> cases v <;> simp only at fz <;> simp only [CRel] at hc2 <;> simp only [VF]
  · obtain ⟨us, e, q⟩ := hc2; exact ⟨us, e, frzs_vr R2 hw _ _ us fz q⟩
  · obtain ⟨us, e, q⟩ := hc2; exact ⟨us, e, frzk_vr R2 hw _ _ us fz q⟩
  · obtain ⟨us, e, q⟩ := hc2; exact ⟨us, e, frzt_vr R2 hw _ _ us fz q⟩
end
/-! ### the law -/
/-- a def as it stands behind the top -/
def DefAt (K : PySem.W.Frag) (x : Str) (st : Stmt) (f : Addr) (fd : FuncData) : Prop := PySem.W.nsIn K mainGlobals x = some (some (.ref f)) ∧ L2.Fun K x x st f fd
omit [Tabs] in
theorem defAt_mk {K : PySem.W.Frag} {x : Str} {st : Stmt} {f : Addr} {od an : Option Addr} {sl : Array (Option Value)} {oc kV dc pm cd ct : Value} (a : PySem.W.nsIn K mainGlobals x = some (some (.ref f)))
    (l : K.lookup f = some ⟨oc, od, .func (PySem.W.fnOf x x (defArgs st) (defBody st) (defScope st) .none kV dc pm an cd ct), sl⟩) (c : PySem.W.codeIn K cd x = true) (k : PySem.W.keepIn K (.ref f) = true) :
    DefAt K x st f (PySem.W.fnOf x x (defArgs st) (defBody st) (defScope st) .none kV dc pm an cd ct) := ⟨a, fun_mk l c k⟩
/-- the law's promise from its function; ts: the tables of the defs that make lambdas -/
def spLawT (K : PySem.W.Frag) (ts : List Addr) : Sp := fun us H Q _ => ∃ (a : Addr) (ns : List Int), us = [.ref a] ∧ SqL K H a (ns.map V.int) ∧ ns.length ≤ 63 ∧ (∀ z ∈ ns, Builtin.Int.intBits z ≤ 1048576) ∧ (∀ p ∈ ts, H p = some (.tbl #[])) ∧ ∀ H', Q (.bl true) H'
def spLaw (K : PySem.W.Frag) : Sp := fun us H Q _ => ∃ (a : Addr) (ns : List Int), us = [.ref a] ∧ SqL K H a (ns.map V.int) ∧ ns.length ≤ 63 ∧ (∀ z ∈ ns, Builtin.Int.intBits z ≤ 1048576) ∧ Only H ∧ ∀ H', Q (.bl true) H'
theorem law_fnT {P : Program} {w : World} {K : PySem.W.Frag} {mg : Str → Option Value} {base : Heap} {k : Nat} {f : Addr} {fd : FuncData} {ps : List Str} {g : Fn} {ts : List Addr} (F : FnOk P w K mg base CX0 k f fd ps (spM K 1 g)) (nd : ts.Nodup) (ad : ∀ n p, ts[n]? = some p → p = Tabs.adr n)
    (h : ∀ ns : List Int, ns.length ≤ 63 → (∀ z ∈ ns, Builtin.Int.intBits z ≤ 1048576) → ∃ h', g [.scr ns] (tabs0 ts.length) = some (.bl true, h')) : FnOk P w K mg base CX0 k f fd ps (spLawT K ts) := F.imp fun us H Q E ⟨a, ns, e, sq, hl, hb, hT, q⟩ => by
  subst e
  obtain ⟨h', e⟩ := h ns hl hb
  refine ⟨rfl, ts, [], tabs0 ts.length, [.scr ns], .bl true, h', ⟨by simp [tabs0], nd, fun n a c hn hc => ?_, fun d hd => nomatch hd⟩, ?_, e, fun r' u H' F' R' V' => ?_⟩
  · have hl := (List.getElem?_eq_some_iff.mp hn).1
    unfold tabs0 at hc
    rw [List.getElem?_map, List.getElem?_range hl] at hc
    cases hc
    simp only [CRel]
    refine ⟨ad n a hn, #[], hT a (List.mem_of_getElem? hn), True.intro, fun pos cv z => ?_⟩
    have z : codeAmong pos [] = some cv := z
    simp [codeAmong] at z
  · simp only [VRs, VR]
    refine ⟨.ref a, [], rfl, ⟨a, rfl, ?_⟩, rfl⟩
    rcases sq with sq | sq
    · refine .inl ⟨⟨fun z => ?_, by simp⟩, sq⟩
      have := hT a z
      rcases sq with sq | ⟨o, sq⟩ <;> rw [sq] at this <;> cases this
    · exact .inr sq
  · simp only [VR] at V'
    subst V'
    exact q H'
theorem law_fn {P : Program} {w : World} {K : PySem.W.Frag} {mg : Str → Option Value} {base : Heap} {k : Nat} {f : Addr} {fd : FuncData} {ps : List Str} {g : Fn} (F : FnOk P w K mg base CX0 k f fd ps (spM K 1 g))
    (h : ∀ ns : List Int, ns.length ≤ 63 → (∀ z ∈ ns, Builtin.Int.intBits z ≤ 1048576) → ∃ h', g [.scr ns] [] = some (.bl true, h')) : FnOk P w K mg base CX0 k f fd ps (spLaw K) :=
  (law_fnT (ts := []) F List.nodup_nil (fun n p e => by simp at e) h).imp fun us H Q E ⟨a, ns, e, sq, hl, hb, _, q⟩ => ⟨a, ns, e, sq, hl, hb, fun p hp => (nomatch hp), q⟩
end Ew
end

section
set_option Elab.async false
set_option linter.all false
set_option maxRecDepth 100000
set_option maxHeartbeats 4000000
/-! EwJ: more rules: dicts, lists joined, sorted, == of dicts. -/
namespace Ew
open PySem PySem.Spec PyProof.Rows L2
variable [Tabs]
section
variable {K : PySem.W.Frag} {X : Cx} {e a b c o i : Expr} {m ma mb mc mo mi : XE} {pos p : Pos} {es : List Expr} {mas : XA}
/-! ### lists, tuples joined and cut -/
theorem lstC_at {r w : List Addr} {h : MH} {H : Hp} {v : MV} {u : V} {xs : List MV} (R : Rel K r w h H) (q : VR K r w H v u) (e : lstC h v = some xs) : ∃ p us, u = .ref p ∧ H p = some (.lst us) ∧ VRs K r w H xs us := by
  cases v <;> simp only [lstC, reduceCtorEq, Option.some.injEq] at e
  · subst e
    simp only [VR] at q
    obtain ⟨a, us, rfl, _, t, q⟩ := q
    exact ⟨a, us, rfl, t, q⟩
  · split at e
    · rename_i ys e1
      simp only [Option.some.injEq] at e; subst e
      obtain ⟨a, us, rfl, _, t, q⟩ := ref_at R q e1
      exact ⟨a, us, rfl, t, q⟩
    · cases e
theorem bin_wkF {f : MH → MV → MV → Option MV} {t : R2} (hr : ∀ r w h H x y v u1 u2 Q, Rel K r w h H → VR K r w H x u1 → VR K r w H y u2 → f h x y = some v → ContF K r w h H v Q → t u1 u2 H Q) :
    ∀ z H Q, tF K (xOp f ma mb) z H Q → tOp t (tM K ma) (tM K mb) z H Q := fun z H Q ⟨r, w, s, h, v, h', R, S, e, C⟩ => by
  obtain ⟨x, h1, y, e1, e2, e3⟩ := xOp_at e
  exact ⟨r, w, s, h, x, h1, R, S, e1, fun r1 u1 H1 F1 R1 V1 => ⟨r1, w, s, h1, y, h', R1, S.fwd F1, e2, fun r2 u2 H2 F2 R2 V2 =>
    hr r2 w h' H2 x y v u1 u2 Q R2 (VR.fwd F2 _ _ V1) V2 e3 ((C.fwd F1 R1).fwd F2 R2)⟩⟩
theorem mf_cat (ha : ME X a ma) (hb : ME X b mb) : MF X (.BinOp a .Add b pos) (xCat ma mb) := PE.wk (pe_op op_cat ha hb) (bin_wkF fun r w h H x y v u1 u2 Q R V1 V2 e C => by
  unfold opCat at e
  split at e
  · rename_i xs ys e1 e2
    split at e
    · rename_i hl
      simp only [Option.some.injEq] at e; subst e
      obtain ⟨p1, us, rfl, t1, q1⟩ := lstC_at R V1 e1
      obtain ⟨p2, ws, rfl, t2, q2⟩ := lstC_at R V2 e2
      refine ⟨p1, p2, us, ws, rfl, rfl, t1, t2, ?_, fun p hp => C.lst R hp (VRs.append q1 q2)⟩
      rw [← VRs.length q1, ← VRs.length q2, ← szl]; exact hl
    · cases e
  · cases e)
theorem tupV_sq (K : PySem.W.Frag) {r w : List Addr} {H : Hp} {v : MV} {u : V} {xs : List MV} (q : VR K r w H v u) (e : tupV v = some xs) : ∃ p us, u = .ref p ∧ SqT K H p us ∧ VRs K r w H xs us := by
  cases v <;> simp only [tupV, reduceCtorEq, Option.some.injEq] at e
  all_goals
    subst e
    simp only [VR] at q
    obtain ⟨p, us, rfl, t, q⟩ := q
    exact ⟨p, us, rfl, t.sq, q⟩
/-- t + u, the new object known -/
def rCatR (K : PySem.W.Frag) : R2 := fun x y H Q => ∃ a b xs ys, x = .ref a ∧ y = .ref b ∧ SqT K H a xs ∧ SqT K H b ys ∧ xs.length + ys.length ≤ sizeLine ∧ (xs = [] → Q (.ref b) H) ∧ (xs ≠ [] → ys = [] → Q (.ref a) H) ∧ (xs ≠ [] → ys ≠ [] → ∀ (p : Addr) (o : Obj), o.cls = .type "tuple" → o.dict = none → H p = none → Q (.ref p) (upd H p (.frz o (.tup (xs ++ ys)))))
theorem op_catR : OpR X (binaryOp .Add) (rCatR X.K) := by
  intro pins s σ H x y v u Q I rx ry h
  obtain ⟨a, b, xs, ys, rfl, rfl, ha, hb, hz, q0, q1, q2⟩ := h
  by_cases hx : xs = []
  · exact op_catA pins s σ H _ _ v u Q I rx ry ⟨a, b, xs, ys, rfl, rfl, ha, hb, hz, q0, fun n => absurd hx n, fun n => absurd hx n⟩
  · cases rx
    cases ry
    obtain ⟨its, r1, p1, _⟩ := I.tuple ha
    obtain ⟨its2, r2, p2, _⟩ := I.tuple hb
    refine HT.cat_tup p1 p2 (fun z => hx (r1.nil_iff.mp z)) (fun z => ⟨.ref a, H, I, rfl, q1 hx (r2.nil_iff.mp z)⟩) (fun z => ?_) (by rw [← r1.length, ← r2.length]; exact hz)
    refine ⟨.ref s.heap.objs.size, _, I.laid (t' := s.toks) (o := .frz { cls := .type "tuple", data := .seq (its ++ its2).toArray } (.tup (xs ++ ys))) (fun b ob q => Heap.get?_push_of_some _ q) (Nat.le_refl _) ?_, rfl, q2 hx (fun w => z (r2.nil_iff.mpr w)) _ { cls := .type "tuple", data := .seq (its ++ its2).toArray } rfl rfl (I.hok.fresh (Nat.le_refl _))⟩
    exact ⟨Heap.get?_push_size _ rfl, by rw [List.length_append]; exact hz, _, r1.append r2, IsTup.new _ _⟩
/-- t[lo:hi], the new object known -/
def rSlR (K : PySem.W.Frag) : V → Option Int → Option Int → Hp → VK → Prop := fun x lo hi H Q => ∃ a xs, x = .ref a ∧ SqT K H a xs ∧
  (HT.sIx xs.length 0 lo = 0 ∧ HT.sIx xs.length xs.length hi = xs.length → Q (.ref a) H) ∧ (¬ (HT.sIx xs.length 0 lo = 0 ∧ HT.sIx xs.length xs.length hi = xs.length) → ∀ (p : Addr) (o : Obj), o.cls = .type "tuple" → o.dict = none → H p = none → Q (.ref p) (upd H p (.frz o (.tup (cutV xs lo hi)))))
theorem sl_tupR : SlR X (rSlR X.K) := by
  intro pins s σ H x v vl vu lo hi sl Q I rx hs pl pu h
  obtain ⟨a, xs, rfl, hx, q1, q2⟩ := h
  by_cases hw : HT.sIx xs.length 0 lo = 0 ∧ HT.sIx xs.length xs.length hi = xs.length
  · exact sl_tupA pins s σ H _ v vl vu lo hi sl Q I rx hs pl pu ⟨a, xs, rfl, hx, q1, fun n => absurd hw n⟩
  · cases rx
    obtain ⟨its, r, ht, hz⟩ := I.tuple hx
    have hlen : its.toArray.size = xs.length := by rw [List.size_toArray]; exact r.length.symm
    refine ⟨"tuple", _, PyProof.Rows.slot_tuple_getitem.lookup, ht.typeIs, ?_⟩
    refine HT.getItem_tuple_cut ht hs pl pu (by rw [hlen]; exact hw) ?_ (by rw [hlen]; exact hz)
    rw [hlen]
    refine ⟨.ref s.heap.objs.size, _, I.laid (t' := s.toks) (o := .frz { cls := .type "tuple", data := .seq ((its.drop (HT.sIx xs.length 0 lo)).take (HT.sIx xs.length xs.length hi - HT.sIx xs.length 0 lo)).toArray } (.tup (cutV xs lo hi))) (fun b ob q => Heap.get?_push_of_some _ q) (Nat.le_refl _) ?_, rfl, q2 hw _ { cls := .type "tuple", data := .seq ((its.drop (HT.sIx xs.length 0 lo)).take (HT.sIx xs.length xs.length hi - HT.sIx xs.length 0 lo)).toArray } rfl rfl (I.hok.fresh (Nat.le_refl _))⟩
    exact ⟨Heap.get?_push_size _ rfl, Nat.le_trans (cutV_length xs lo hi) hz, _, (r.drop (HT.sIx xs.length 0 lo)).take (HT.sIx xs.length xs.length hi - HT.sIx xs.length 0 lo), IsTup.new _ _⟩
theorem me_catT (ha : ME X a ma) (hb : ME X b mb) : ME X (.BinOp a .Add b pos) (xOp opCatT ma mb) := me_op op_catR (fun r w h H x y v u1 u2 Q R V1 V2 e C => by
  simp only [opCatT] at e
  split at e
  · rename_i xs ys e1 e2
    split at e
    · rename_i hl
      simp only [Option.some.injEq] at e; subst e
      obtain ⟨p1, us, rfl, t1, q1⟩ := tupV_sq X.K V1 e1
      obtain ⟨p2, ws, rfl, t2, q2⟩ := tupV_sq X.K V2 e2
      refine ⟨p1, p2, us, ws, rfl, rfl, t1, t2, ?_, fun z => ?_, fun z1 z => ?_, fun z1 z2 p o hc hd hp => ?_⟩
      · rw [← VRs.length q1, ← VRs.length q2, ← szl]; exact hl
      · have : xs = [] := List.length_eq_zero_iff.mp (by rw [VRs.length q1, z]; rfl)
        subst this
        exact C.now R V2
      · have : ys = [] := List.length_eq_zero_iff.mp (by rw [VRs.length q2, z]; rfl)
        subst this
        have : xs ≠ [] := fun w => z1 (by subst w; simpa [VRs] using q1)
        cases xs with
        | nil => exact absurd rfl this
        | cons x xs => exact C.now R V1
      · have n1 : xs ≠ [] := fun w => z1 (by subst w; simpa [VRs] using q1)
        have n2 : ys ≠ [] := fun w => z2 (by subst w; simpa [VRs] using q2)
        cases xs with
        | nil => exact absurd rfl n1
        | cons x xs =>
          cases ys with
          | nil => exact absurd rfl n2
          | cons y ys => exact C.row hc hd R hp (VRs.append q1 q2)
    · cases e
  · cases e) ha hb
theorem me_slT {lo hi : Option Expr} {ml mh : XO} {p2 : Pos} (he : ME X e m) (hl : MO X lo ml) (hh : MO X hi mh) : ME X (.Subscript e (.Slice lo hi none p2) pos) (xSlT m ml mh) := PE.wk (pe_slice sl_tupR he hl hh) fun z H Q ⟨r, w, s, h, v, h', R, S, e, C⟩ => by
  unfold xSlT at e
  cases e1 : m s h with
  | none => simp [e1] at e
  | some p1 =>
    obtain ⟨x, h1⟩ := p1
    simp only [e1] at e
    cases e2 : ml s h1 with
    | none => simp [e2] at e
    | some p2 =>
      obtain ⟨l, h2⟩ := p2
      simp only [e2] at e
      cases e3 : mh s h2 with
      | none => simp [e3] at e
      | some p3 =>
        obtain ⟨u, h3⟩ := p3
        simp only [e3] at e
        cases e4 : tupV x with
        | none => cases x <;> simp only [tupV, reduceCtorEq] at e4 e
        | some xs =>
          refine ⟨r, w, s, h, _, h1, R, S, e1, fun r1 u1 H1 F1 R1 V1 => ⟨r1, w, s, h1, l, h2, R1, S.fwd F1, e2, fun r2 H2 F2 R2 => ⟨r2, w, s, h2, u, h3, R2, (S.fwd F1).fwd F2, e3, fun r3 H3 F3 R3 => ?_⟩⟩⟩
          have V3 := VR.fwd F3 _ _ (VR.fwd F2 _ _ V1)
          obtain ⟨p, us, rfl, t, q⟩ := tupV_sq X.K V3 e4
          have el := VRs.length q
          have qc : VRs X.K r3 w H3 (cutM xs l u) (cutV us l u) := by
            unfold cutM cutV
            rw [← el]
            exact VRs.take _ (VRs.drop _ q)
          refine ⟨p, us, rfl, t, fun hw => ?_, fun hw l' o hc hd hl' => ?_⟩
          · have hw' : sIxM xs.length 0 l = 0 ∧ sIxM xs.length xs.length u = xs.length := by rw [el]; exact hw
            have ec : cutM xs l u = xs := by unfold cutM; rw [hw'.1, hw'.2]; simp
            cases x <;> simp only [tupV, reduceCtorEq, Option.some.injEq] at e4
            all_goals subst e4
            · simp only [if_pos hw', Option.some.injEq, Prod.mk.injEq] at e
              obtain ⟨rfl, rfl⟩ := e
              exact (((C.fwd F1 R1).fwd F2 R2).fwd F3 R3).now R3 V3
            · simp only [ec, Option.some.injEq, Prod.mk.injEq] at e
              obtain ⟨rfl, rfl⟩ := e
              exact (((C.fwd F1 R1).fwd F2 R2).fwd F3 R3).now R3 V3
          · have hw' : ¬ (sIxM xs.length 0 l = 0 ∧ sIxM xs.length xs.length u = xs.length) := by rw [el]; exact hw
            cases x <;> simp only [tupV, reduceCtorEq, Option.some.injEq] at e4
            all_goals subst e4
            · simp only [if_neg hw', Option.some.injEq, Prod.mk.injEq] at e
              obtain ⟨rfl, rfl⟩ := e
              exact (((C.fwd F1 R1).fwd F2 R2).fwd F3 R3).row hc hd R3 hl' qc
            · simp only [Option.some.injEq, Prod.mk.injEq] at e
              obtain ⟨rfl, rfl⟩ := e
              exact (((C.fwd F1 R1).fwd F2 R2).fwd F3 R3).row hc hd R3 hl' qc
/-! ### the first place -/
theorem find_of {α : Type} {f : α → Bool} : ∀ {xs : List α} {j : Nat}, xs.findIdx? f = some j → ∃ z, xs[j]? = some z ∧ f z = true ∧ ∀ m y, m < j → xs[m]? = some y → f y = false := by
  intro xs j e
  obtain ⟨h1, h2, h3⟩ := List.findIdx?_eq_some_iff_getElem.mp e
  refine ⟨xs[j], List.getElem?_eq_getElem h1, h2, fun m y hm ey => ?_⟩
  have := h3 m hm
  obtain ⟨hl, rfl⟩ := List.getElem?_eq_some_iff.mp ey
  simpa using this
/-- the call of a method of a tuple that has no dict -/
def tBMr (r : V → List V → Hp → VK → Prop) (to : TE) (t : TA) : TE := fun σ H Q => to σ H fun x H1 => (∃ p o us, x = .ref p ∧ o.cls = .type "tuple" ∧ o.dict = none ∧ H1 p = some (.frz o (.tup us))) ∧ t σ H1 fun xs H2 => r x xs H2 Q
theorem pe_bmR {name : Str} {apos cpos : Pos} {id : String} {r : V → List V → Hp → VK → Prop} {to : TE} {t : TA} (pa : PlainAttrs "tuple") (slot : Slot "tuple" name id) (hty : typeOf (.builtin id) = pure (.type "method_descriptor")) (hm : MtR X id r) (ho : PE X o to) (ha : PA X (e :: es) t)
    (hbase : attributeBase o name X.env (eval o X.env) = eval o X.env := by rfl)
    (hfew : ((backTo cpos (starEach (e :: es) X.env)).all (fun x => !x.1) && (backToKw cpos (keywordEach [] X.env)).all (fun x => x.1.isSome)
      && decide ((e :: es).length + ([] : List Keyword).length + (if ([] : List Keyword).isEmpty then 0 else 1) < 30)) = true := by rfl)
    (hline : (apos.endLine == cpos.line) = true := by rfl) (hs : starEach (e :: es) X.env = (false, eval e X.env) :: starEach es X.env := by rfl) (hplain : (backTo cpos (starEach es X.env)).any (·.1) = false := by rfl) :
    PE X (.Call (.Attribute o name apos) (e :: es) [] cpos) (tBMr r to t) := by
  refine ⟨fun pins s σ H Q I h => ?_⟩
  refine wpAny_Call_method_late hbase hfew hline rfl (thn (ho.run pins s σ H _ I h) fun v s1 ⟨x, H1, I1, r1, ⟨p, ob, us, hx, hc, hd, hp⟩, q1⟩ => ?_)
  subst hx
  cases r1
  obtain ⟨h1, _⟩ := I1.hok p _ hp
  refine ⟨"tuple", id, pa, slot, hty, ⟨ob, h1, hc⟩, fun a ea => by cases ea; exact ⟨ob, h1, hd⟩, ?_⟩
  have hA := ha.run cpos pins s1 σ H1 _ I1 q1
  rw [hs] at hA ⊢
  refine Calls.callWith_builtin (by show (false || (backTo cpos (starEach es X.env)).any (·.1)) = false; rw [hplain] <;> rfl) (Calls.evalArgs_plain ?_)
  exact thn hA fun us s2 ⟨vs, H2, I2, r2, q2⟩ => hm pins s2 σ H2 (.ref p) vs (Value.ref p) us Q I2 (show RelV (V.ref p) (Value.ref p) from rfl) r2 q2
/-- t.index(k), ints, k is there -/
theorem mt_indexT : MtR X "tuple.index" (fun x xs H Q => ∃ (a : Addr) (ns : List Int) (k : Int), x = .ref a ∧ xs = [.int k] ∧ SqT X.K H a (ns.map V.int) ∧ k ∈ ns ∧ Q (.int (ns.idxOf k : Nat)) H) := by
  intro pins s σ H x xs v us Q I rx rxs h
  obtain ⟨a, ns, k, rfl, rfl, sq, hk, q⟩ := h
  cases rx
  obtain ⟨u, rfl, t, rfl⟩ := vals1 rxs
  obtain ⟨its, rv, pl, _⟩ := I.tuple sq
  exact PySem.SeqAt.tuple_index_ints (vs := its) pl rv.ints hk ⟨.int _, H, I.tok _, ⟨_, rfl⟩, q⟩
theorem me_indexL {apos : Pos} (ho : ME X o mo) (he : ME X e m) (hbase : attributeBase o "index" X.env (eval o X.env) = eval o X.env := by rfl)
    (hfew : ((backTo pos (starEach [e] X.env)).all (fun x => !x.1) && (backToKw pos (keywordEach [] X.env)).all (fun x => x.1.isSome) && decide ([e].length + ([] : List Keyword).length + (if ([] : List Keyword).isEmpty then 0 else 1) < 30)) = true := by rfl)
    (hline : (apos.endLine == pos.line) = true := by rfl) (hs : starEach (e :: []) X.env = (false, eval e X.env) :: starEach [] X.env := by rfl) (hpl : (backTo pos (starEach [] X.env)).any (·.1) = false := by rfl) :
    ME X (.Call (.Attribute o "index" apos) [e] [] pos) (xOp opIndexL mo m) := PE.wk (PE.or2 (pe_bm PySem.F.plainAttrs_list PySem.F.slot_list_index PySem.F.type_list_index mt_index ho (pa_cons he pa_nil hs) hbase hfew hline hs hpl) (pe_bmR PySem.F.plainAttrs_tuple PySem.F.slot_tuple_index PySem.F.type_tuple_index mt_indexT ho (pa_cons he pa_nil hs) hbase hfew hline hs hpl)) fun z H Q ⟨r, w, s, h, v, h', R, S, e, C⟩ => by
  obtain ⟨x, h1, y, e1, e2, e3⟩ := xOp_at e
  by_cases hrow : ∃ xs, x = .row xs
  · obtain ⟨xs, rfl⟩ := hrow
    simp only [opIndexL, opIndexR] at e3
    split at e3
    · rename_i ns k e4
      split at e3
      · rename_i hk
        simp only [Option.some.injEq] at e3
        subst e3
        refine .inr ⟨r, w, s, h, _, h1, R, S, e1, fun r1 u1 H1 F1 R1 V1 => ?_⟩
        have V1' := V1
        simp only [VR] at V1'
        obtain ⟨p, us, rfl, ⟨_, o, hc, hd, t⟩, q⟩ := V1'
        refine ⟨⟨p, o, us, rfl, hc, hd, t⟩, r1, w, s, h1, _, h', R1, S.fwd F1, e2, fun r2 u2 H2 F2 R2 V2 => ?_⟩
        have V3 := VR.fwd F2 _ _ V1
        simp only [VR] at V2 V3
        subst V2
        obtain ⟨p', us', e6, t', q'⟩ := V3
        cases e6
        have e5 := ints_of q' e4
        subst e5
        exact ⟨p, ns, k, rfl, rfl, t'.sq, hk, ((C.fwd F1 R1).fwd F2 R2).now R2 (by simp only [VR])⟩
      · cases e3
    · cases e3
  replace e3 : opIndexL0 h' x y = some v := by
    unfold opIndexL at e3
    split at e3
    · exact absurd ⟨_, rfl⟩ hrow
    · exact e3
  refine .inl ?_
  unfold opIndexL0 at e3
  split at e3
  · rename_i xs e4
    split at e3
    · rename_i f
      rw [Bool.and_eq_true] at f
      cases e5 : xs.findIdx? fun z => feqM z y with
      | none => rw [e5] at e3; cases e3
      | some j =>
        rw [e5] at e3
        simp only [Option.map_some, Option.some.injEq] at e3
        subst e3
        refine ⟨r, w, s, h, x, h1, R, S, e1, fun r1 u1 H1 F1 R1 V1 => ?_⟩
        cases x <;> simp only [lstV, reduceCtorEq, Option.some.injEq] at e4
        rename_i ys
        subst e4
        have V1' := V1
        simp only [VR] at V1'
        obtain ⟨p, us, rfl, _, t, q⟩ := V1'
        refine ⟨.inl ⟨rfl, us, SqL.of t⟩, r1, w, s, h1, y, h', R1, S.fwd F1, e2, fun r2 u2 H2 F2 R2 V2 => ?_⟩
        have V3 := VR.fwd F2 _ _ V1
        simp only [VR] at V3
        obtain ⟨p', us', e6, _, t', q'⟩ := V3
        cases e6
        obtain ⟨z, g1, g2, g3⟩ := find_of e5
        obtain ⟨uz, g4, g5⟩ := VRs.get q' g1
        have fz : flatM z = true := List.all_eq_true.mp f.2 z (List.mem_of_getElem? g1)
        refine ⟨p, us', u2, j, uz, rfl, rfl, SqL.of t', flat_of V2 f.1, flats_of q' f.2, g4, by rw [feq_of V2 g5 f.1 fz]; exact g2, fun m z' hm hz' => ?_, ((C.fwd F1 R1).fwd F2 R2).now R2 (by simp only [VR])⟩
        obtain ⟨y', g6, g7⟩ := VRs.back q' hz'
        rw [feq_of V2 g7 f.1 (List.all_eq_true.mp f.2 y' (List.mem_of_getElem? g6))]
        exact g3 m y' hm g6
    · cases e3
  · cases e3
/-! ### displays -/
abbrev prs (K : PySem.W.Frag) (ps : List (XE × XE)) : List (TE × TE) := ps.map fun q => (tM K q.1, tM K q.2)
abbrev MPs (X : Cx) (pos : Pos) (ks : List (Option Expr)) (vs : List Expr) (ps : List (XE × XE)) : Prop := PPs X pos ks vs (prs X.K ps)
theorem mp_nil : MPs X pos [] [] [] := pps_nil
theorem mp_cons {ks : List (Option Expr)} {vs : List Expr} {ps : List (XE × XE)} (hk : ME X a ma) (hv : ME X b mb) (hr : MPs X pos ks vs ps) : MPs X pos (some a :: ks) (b :: vs) ((ma, mb) :: ps) := pps_cons hk hv hr
theorem pairs_of {s : SM} {z : L2.St} : ∀ {ps : List (XE × XE)} {r w : List Addr} {h h' : MH} {H : Hp} {kvs : List (MK × MV)} {Q : List (V × V) → Hp → Prop}, Rel K r w h H → SR K r w H s z → xPairs ps s h = some (kvs, h') →
    (∀ r' us H', Fwd r H r' H' → Rel K r' w h' H' → VRk K r' w H' kvs us → Q (us.map fun kv => (kV kv.1, kv.2)) H') → tPairs (prs K ps) z H Q
  | [], r, w, h, h', H, kvs, Q, R, S, e, k => by
    simp only [xPairs, Option.some.injEq, Prod.mk.injEq] at e
    obtain ⟨rfl, rfl⟩ := e
    exact k r [] H (Fwd.refl r H) R (by simp [VRk])
  | (a, b) :: ps, r, w, h, h', H, kvs, Q, R, S, e, k => by
    simp only [xPairs] at e
    cases e1 : a s h with
    | none => simp [e1] at e
    | some p1 =>
      obtain ⟨x, h1⟩ := p1
      simp only [e1] at e
      cases e2 : b s h1 with
      | none => simp [e2] at e
      | some p2 =>
        obtain ⟨y, h2⟩ := p2
        simp only [e2] at e
        cases e3 : keyOf x with
        | none => simp [e3] at e
        | some kk =>
          simp only [e3] at e
          cases e4 : xPairs ps s h2 with
          | none => simp [e4] at e
          | some p3 =>
            obtain ⟨qs, h3⟩ := p3
            simp only [e4, Option.some.injEq, Prod.mk.injEq] at e
            obtain ⟨rfl, rfl⟩ := e
            refine ⟨r, w, s, h, x, h1, R, S, e1, fun r1 u1 H1 F1 R1 V1 => ⟨r1, w, s, h1, y, h2, R1, S.fwd F1, e2, fun r2 u2 H2 F2 R2 V2 => ?_⟩⟩
            refine pairs_of R2 ((S.fwd F1).fwd F2) e4 fun r3 us H3 F3 R3 V3 => ?_
            have ek := key_kV V1 e3
            subst ek
            exact k r3 ((kk, u2) :: us) H3 ((F1.tr R1 F2).tr R2 F3) R3 (by simp only [VRk]; exact ⟨u2, us, rfl, VR.fwd F3 _ _ V2, V3⟩)
theorem merge_vr {r w : List Addr} {H : Hp} : ∀ {more kvs : List (MK × MV)} {us ws : List (Key × V)}, VRk K r w H kvs us → VRk K r w H more ws → VRk K r w H (mergeM kvs more) (mergeK us ws)
  | [], kvs, us, ws, q, q2 => by simp only [VRk] at q2; subst q2; exact q
  | (k, v) :: more, kvs, us, ws, q, q2 => by
    simp only [VRk] at q2
    obtain ⟨u, t, rfl, q3, q4⟩ := q2
    show VRk K r w H (mergeM (putM kvs k v) more) (mergeK (putK us k u) t)
    exact merge_vr (VRk.put k q3 q) q4
theorem mf_disp {ks : List (Option Expr)} {vs : List Expr} {ps : List (XE × XE)} (hp : MPs X pos ks vs ps) (hall : ks.all (·.isSome) = true := by rfl) (hl : ks.length = vs.length := by rfl) (h0 : ks ≠ [] := by decide) (h15 : ks.length ≤ 15 := by decide) :
    MF X (.Dict ks vs pos) (xDisp ps) := PE.wk (pe_disp hp hall hl h0 h15) fun z H Q ⟨r, w, s, h, v, h', R, S, e, C⟩ => by
  unfold xDisp at e
  split at e
  · cases e
  · rename_i kvs h1 e1
    split at e
    · rename_i hle
      simp only [Option.some.injEq, Prod.mk.injEq] at e
      obtain ⟨rfl, rfl⟩ := e
      intro p hp0
      refine pairs_of (R.hold hp0) (S.map (Stp.hold R hp0)) e1 fun r2 us H2 F2 R2 V2 => ?_
      have hpr : p ∉ r := R.nin hp0
      have eP : H2 p = some (.dK []) := F2.keep p _ hpr upd_same
      have hm : p ∈ p :: w := List.mem_cons_self
      have nP2 : p ∉ r2 := (R2.wh p hm).1
      refine ⟨eP, us, rfl, by rw [← VRk.length V2]; exact hle, ?_⟩
      have F3 : Fwd r H r2 (upd H2 p (.dK (mergeK [] us))) := by
        refine ⟨?_, fun a o n ea => ?_, fun a o u ea => ?_⟩
        · obtain ⟨qs, rfl, hq⟩ := F2.ext
          refine ⟨qs, rfl, fun q hqm => ?_⟩
          have := hq q hqm
          by_cases ne : q = p
          · subst ne; rw [upd_same] at this; cases this
          · rwa [upd_ne ne] at this
        · have ne : a ≠ p := ne_of_none ea hp0
          rw [upd_ne ne]
          exact F2.keep a o n (by rw [upd_ne ne]; exact ea)
        · have ne : a ≠ p := ne_of_none ea hp0
          rw [upd_ne ne]
          exact F2.frz a o u (by rw [upd_ne ne]; exact ea)
      refine C r2 p _ F3 hp0 (R2.held hm) ?_
      simp only [VF]
      exact ⟨_, upd_same, VRk.map (Stp.held hm) _ _ (merge_vr (by simp [VRk]) V2)⟩
    · cases e
end
/-! ### the keys' view -/
def KeysO (d v : Addr) : HO := .ext fun h => PySem.W.KdlKeysView h v d
section
variable {X : Cx} {o : Expr} {mo : XE} {pos p q apos ppos : Pos}
theorem keys_new {P : Program} {w : World} {H : Hp} {d : Addr} (h : Heap) : ObjOk P w H (h.push { cls := .type "dict_keys", data := .fields #[.ref d] }) h.objs.size (KeysO d h.objs.size) :=
  ⟨⟨_, Heap.get?_push_size _ rfl, rfl, rfl⟩, ⟨_, Heap.get?_push_size _ rfl⟩, fun h1 h2 ⟨o, e, c, dd⟩ k => ⟨o, k o e, c, dd⟩⟩
/-- d.keys() of a dict, locked or not -/
theorem pe_keysV {td : TE} (ho : PE X o td) (hbase : attributeBase o "keys" X.env (eval o X.env) = eval o X.env := by rfl) (hline : (apos.endLine == pos.line) = true := by rfl) :
    PE X (.Call (.Attribute o "keys" apos) [] [] pos) (fun z H Q => td z H fun u H1 => ∃ d kvs, u = .ref d ∧ Rd H1 d (.dK kvs) ∧ ∀ v, H1 v = none → Q (.ref v) (upd H1 v (KeysO d v))) := by
  refine ⟨fun pins s σ H Q I h => ?_⟩
  refine wpAny_Call_method0_late hbase hline (thn (ho.run pins s σ H _ I h) fun v s1 ⟨x, H1, I1, r1, d, kvs, ex, rd, q1⟩ => ?_)
  subst ex
  obtain rfl : v = Value.ref d := r1
  obtain ⟨z, lo, vs, rel, dd⟩ := dk_rd I1.hok rd
  refine ⟨"dict", "dict.keys", F.plainAttrs_dict, F.slot_dict_keys, F.type_dict_keys, dd.typeIs, dd.mapOf.noDict, ?_⟩
  refine Calls.callWith_builtin rfl (PySem.evalArgs_none ?_)
  refine call_meetsIn F.slot_dict_keys dd.typeIs F.entry_dict_keys (F.args_dict_keys_1 _) (PySem.W.kdl_meets_keys (mixKind X.prog X.w) d lo) ⟨⟨vs, dd⟩, ?_⟩
  exact ⟨.ref s1.heap.objs.size, _, I1.laid (a := s1.heap.objs.size) (o := KeysO d s1.heap.objs.size) (t' := s1.toks) (fun _ _ q => Heap.get?_push_of_some _ q) (Nat.le_refl _) (keys_new s1.heap), rfl, q1 _ (I1.hok.fresh (Nat.le_refl _))⟩
theorem view_of {pins : List (Addr × Obj)} {σ : L2.St} {H : Hp} {s : Shared} {d v : Addr} (I : Inv X pins σ H s) (e : H v = some (KeysO d v)) : PySem.W.KdlKeysView s.heap v d := (I.hok v _ e).1
/-- list(d.keys()) -/
theorem call_listKeys (hcalm : X.calm = true) : CallR X (.type "list") (fun xs H Q => ∃ (v d : Addr) (kvs : List (Key × V)), xs = [.ref v] ∧ H v = some (KeysO d v) ∧ Rd H d (.dK kvs) ∧ ∀ p, H p = none → Q (.ref p) (upd H p (.lst (kvs.map fun kv => kV kv.1)))) := by
  intro pins s σ H xs us Q I r q
  obtain ⟨v, d, kvs, rfl, hv, hd, q⟩ := q
  obtain ⟨u, rfl, rx⟩ := vals1 r
  cases rx
  obtain ⟨z, lo, vs, rel, dd⟩ := dk_rd I.hok hd
  obtain ⟨ep, hat⟩ := dd.dictAt
  have ek : (kvs.map fun kv => kV kv.1) = vs.map fun p => kV p.1 := by
    have e := congrArg (List.map kV) rel.keys
    rw [List.map_map, List.map_map] at e
    exact e
  refine PySem.W.kdl_call (PySem.W.kdl_keys (knd := mixKind X.prog X.w) (kvs := vs) (ep := ep)) (I.ok.hd hcalm) ⟨view_of I hv, hat⟩ (by rw [← rel.length]; exact z) fun h' tk acc c' hk hD hacc => ?_
  have hvs : Vals (vs.map fun p => kV p.1) acc.toList := keys_at (by rw [Array.length_toList]; exact hacc.1) fun j v e => hacc.2 j v (by rw [← Array.getElem?_toList]; exact e)
  refine ⟨.ref s.heap.objs.size, _, I.laid (t' := tk) (o := .lst (kvs.map fun kv => kV kv.1)) hk (Nat.le_refl _) ⟨by rw [List.length_map]; exact z, acc.toList, c', by rw [ek]; exact hvs, by rw [Array.toArray_toList]; exact hD⟩, rfl, q _ (I.hok.fresh (Nat.le_refl _))⟩
/-- sorted(d.keys()), ints, any number of them -/
theorem call_sortedKeys (hcalm : X.calm = true) : CallR X (.builtin "sorted") (fun xs H Q => ∃ (v d : Addr) (kvs : List (Key × V)) (ks : List Int), xs = [.ref v] ∧ H v = some (KeysO d v) ∧ Rd H d (.dK kvs) ∧ kvs.map (·.1) = ks.map Sum.inl ∧
    ∀ (ys : List Int) (p : Addr), ys.Perm ks → ys.Pairwise (· ≤ ·) → H p = none → Q (.ref p) (upd H p (.lst (ys.map V.int)))) := by
  intro pins s σ H xs us Q I r q
  obtain ⟨v, d, kvs, ks, rfl, hv, hd, hks, q⟩ := q
  obtain ⟨u, rfl, rx⟩ := vals1 r
  cases rx
  obtain ⟨z, lo, vs, rel, dd⟩ := dk_rd I.hok hd
  obtain ⟨ep, hat⟩ := dd.dictAt
  have hkeys : vs.map (·.1) = ks.map Sum.inl := rel.keys.symm.trans hks
  have hl : vs.length = ks.length := by simpa using congrArg List.length hkeys
  have h16 : vs.length ≤ sizeLine := by rw [← rel.length]; exact z
  refine Calls.call_function_entry PyProof.Rows.kind_sorted PyProof.Rows.plain_sorted PyProof.Rows.entry_sorted (PyProof.Rows.args_sorted1 _) ?_
  unfold Builtin.«sorted»
  refine wpAny_bind (m := checkCount "sorted" 1 1 _) (wpAny_pure ?_)
  refine wpAny_bind (PySem.W.kdu_collect (A := X.A.in1) (PySem.W.kdl_keys (knd := mixKind X.prog X.w) (kvs := vs) (ep := ep)) (I.ok.hd hcalm) ⟨view_of I hv, hat⟩ h16 fun h' tk acc hk hacc => ?_)
  have hal : acc.toList.length = ks.length := by rw [Array.length_toList, hacc.1, hl]
  have hS : IntsAre acc.toList ks := ints_each hal fun j v e => by
    obtain ⟨k, x, e1, e2⟩ := hacc.2 j v (by rw [← Array.getElem?_toList]; exact e)
    have e3 : (vs.map (·.1))[j]? = some k := by rw [List.getElem?_map, e1]; rfl
    rw [hkeys, List.getElem?_map] at e3
    cases e4 : ks[j]? with
    | none => rw [e4] at e3; cases e3
    | some y =>
      rw [e4] at e3
      cases (show Sum.inl y = k from Option.some.inj e3)
      rcases keyIs_shape (show keyIs (Sum.inl y) v = true from e2) with ⟨i, t, ek, ev⟩ | ⟨z, t, ek, ev⟩
      · cases ek
        exact ⟨y, t, rfl, ev⟩
      · cases ek
  have I1 : Inv X pins σ H { s with heap := h', toks := tk } := I.kept hk
  have hsz : acc.toList.length ≤ sizeLine := by rw [hal, ← hl]; exact h16
  refine wpAny_bind (wpAny_newList ?_ (by simpa using hsz))
  have hoL : (h'.push (seqObj "list" acc.toList.toArray 0)).get? h'.objs.size = some (seqObj "list" acc.toList.toArray 0) := Heap.get?_push_size _ rfl
  show wpAny _ _ _ _ _ { s with heap := h'.push (seqObj "list" acc.toList.toArray 0), toks := tk }
  refine wpAny_bind (wpAny_holding (wpAny_call_entry PyProof.Rows.slot_list_sort ⟨_, hoL, rfl⟩ PyProof.Rows.entry_list_sort
    (SrtO.list_sort_ord (s := { s with heap := h'.push (seqObj "list" acc.toList.toArray 0), toks := tk }) SrtO.swo_int hoL hsz (fun h2 => SrtO.ints_sortable hS h2) fun out g1 g2 => ⟨_, rfl, ?_⟩) (PyProof.Rows.args_list_sort _)))
  obtain ⟨k1, k2, k3⟩ := SrtO.ints_out hS g1 g2
  obtain ⟨e', he'⟩ := PyProof.Rows.sortedHeap_at (vs := acc.toList) (out := out.toArray) hoL
  have hlen : ((out.map SrtO.iv).map V.int).length ≤ sizeLine := by
    rw [List.length_map, k2.length_eq, ← hal]
    exact hsz
  refine wpAny_pure ⟨_, rfl, .ref h'.objs.size, upd H h'.objs.size (.lst ((out.map SrtO.iv).map V.int)), I1.laid (t' := tk) (fun b u e => ?_) (Nat.le_refl _) ⟨hlen, out, e', vals_of_ints k1, he'⟩, rfl, q _ _ k2 k3 (I1.hok.fresh (Nat.le_refl _))⟩
  have hb : b ≠ h'.objs.size := Nat.ne_of_lt (Heap.lt_size e)
  rw [PyProof.Rows.sortedHeap_old hb (Nat.lt_succ_of_lt (Heap.lt_size e) |> fun z => by simpa using z)]
  exact Heap.get?_push_of_some _ e
end
end Ew
end

section
set_option Elab.async false
set_option linter.all false
set_option maxRecDepth 100000
set_option maxHeartbeats 4000000
/-! EwK: keys, update, dict(..), == of dicts, walks over keys. -/
namespace Ew
open PySem PySem.Spec PyProof.Rows L2
variable [Tabs]
section
variable {K : PySem.W.Frag} {r w : List Addr} {H : Hp}
theorem keyV_vr (k : MK) : VR K r w H (keyV k) (kV k) := by
  cases k <;> simp only [keyV, VR] <;> rfl
theorem keys_vrs : ∀ {kvs : List (MK × MV)} {us : List (Key × V)}, VRk K r w H kvs us → VRs K r w H (kvs.map fun kv => keyV kv.1) (us.map fun kv => kV kv.1)
  | [], us, q => by simp only [VRk] at q; subst q; simp [VRs]
  | (k, v) :: kvs, us, q => by
    simp only [VRk] at q
    obtain ⟨u, t, rfl, q1, q2⟩ := q
    simp only [List.map_cons, VRs]
    exact ⟨_, _, rfl, keyV_vr k, keys_vrs q2⟩
theorem keys_ints : ∀ {kvs : List (MK × MV)} {us : List (Key × V)} {ns : List Int}, VRk K r w H kvs us → intsOf (kvs.map fun kv => keyV kv.1) = some ns → us.map (·.1) = ns.map Sum.inl
  | [], us, ns, q, e => by
    simp only [VRk] at q; subst q
    simp [intsOf] at e; subst e; rfl
  | (k, v) :: kvs, us, ns, q, e => by
    simp only [VRk] at q
    obtain ⟨u, t, rfl, q1, q2⟩ := q
    cases k with
    | inr x => simp [keyV, intsOf] at e
    | inl i =>
      have e' : (intsOf (kvs.map fun kv => keyV kv.1)).map (i :: ·) = some ns := e
      cases e2 : intsOf (kvs.map fun kv => keyV kv.1) with
      | none => rw [e2] at e'; cases e'
      | some ms =>
        rw [e2] at e'
        simp only [Option.map_some, Option.some.injEq] at e'
        subst e'
        simp only [List.map_cons, keys_ints q2 e2]
end
section
variable {K : PySem.W.Frag} {X : Cx} {e a b c o i : Expr} {m ma mb mc mo mi : XE} {pos p q : Pos} {es : List Expr} {mas : XA}
theorem xUn_at {f : MH → MV → Option MV} {s : SM} {h h' : MH} {v : MV} (e : xUn f ma s h = some (v, h')) : ∃ x, ma s h = some (x, h') ∧ f h' x = some v := by
  unfold xUn at e
  cases e1 : ma s h with
  | none => simp [e1] at e
  | some p1 =>
    obtain ⟨x, h1⟩ := p1
    simp only [e1] at e
    cases e2 : f h1 x with
    | none => simp [e2] at e
    | some v' =>
      simp only [e2, Option.some.injEq, Prod.mk.injEq] at e
      obtain ⟨rfl, rfl⟩ := e
      exact ⟨x, rfl, e2⟩
theorem rd_new {r w : List Addr} {H : Hp} {d v : Addr} {o o2 : HO} (rd : Rd H d o) (hv : H v = none) : Rd (upd H v o2) d o := by
  rcases rd with rd | ⟨od, rd⟩
  · exact .inl (by rw [upd_ne (ne_of_none rd hv)]; exact rd)
  · exact .inr ⟨od, by rw [upd_ne (ne_of_none rd hv)]; exact rd⟩
theorem mf_listKeys {apos : Pos} (hm : X.mg "list" = none) (ho : ME X o mo) (hc : X.calm = true := by rfl) (hg : Gl X "list" := by rfl) (hbase : attributeBase o "keys" X.env (eval o X.env) = eval o X.env := by rfl) (hline : (apos.endLine == pos.line) = true := by rfl)
    (he : starEach [.Call (.Attribute o "keys" apos) [] [] pos] X.env = [(false, eval (.Call (.Attribute o "keys" apos) [] [] pos) X.env)] := by rfl) :
    MF X (.Call (.Name "list" p) [.Call (.Attribute o "keys" apos) [] [] pos] [] q) (xUn fKeys mo) :=
  PE.wk (pe_callTy (call_listKeys hc) hg hm (by decide +kernel) (pa_cons (pe_keysV ho hbase hline) pa_nil he) (by decide +kernel) (by decide +kernel) he) fun z H Q ⟨r, w, s, h, v, h', R, S, e, C⟩ => by
  obtain ⟨x, e1, e2⟩ := xUn_at e
  refine ⟨r, w, s, h, x, h', R, S, e1, fun r1 u1 H1 F1 R1 V1 => ?_⟩
  unfold fKeys at e2
  cases e3 : dictK h' x with
  | none => rw [e3] at e2; cases e2
  | some kvs =>
    rw [e3] at e2
    simp only [Option.map_some, Option.some.injEq] at e2
    subst e2
    obtain ⟨d, us, rfl, rd, q⟩ := dictK_rd R1 V1 e3
    refine ⟨d, us, rfl, rd, fun v hv => ⟨v, d, us, rfl, upd_same, rd_new (r := []) (w := []) rd hv, fun p hp => ?_⟩⟩
    have R2 : Rel X.K r1 w h' (upd H1 v (KeysO d v)) := R1.new hv
    exact ((C.fwd F1 R1).fwd (Fwd.new r1 hv) R2).lst R2 hp (keys_vrs (VRk.map (Fwd.new r1 hv).stp _ _ q))
theorem mf_sortKeys {apos : Pos} (hm : X.mg "sorted" = none) (ho : ME X o mo) (hc : X.calm = true := by rfl) (hg : Gl X "sorted" := by rfl) (hbase : attributeBase o "keys" X.env (eval o X.env) = eval o X.env := by rfl) (hline : (apos.endLine == pos.line) = true := by rfl)
    (he : starEach [.Call (.Attribute o "keys" apos) [] [] pos] X.env = [(false, eval (.Call (.Attribute o "keys" apos) [] [] pos) X.env)] := by rfl) :
    MF X (.Call (.Name "sorted" p) [.Call (.Attribute o "keys" apos) [] [] pos] [] q) (xUn fKeysS mo) :=
  PE.wk (pe_callB (call_sortedKeys hc) hg hm (by decide +kernel) (pa_cons (pe_keysV ho hbase hline) pa_nil he) (by decide +kernel) (by decide +kernel) he) fun z H Q ⟨r, w, s, h, v, h', R, S, e, C⟩ => by
  obtain ⟨x, e1, e2⟩ := xUn_at e
  refine ⟨r, w, s, h, x, h', R, S, e1, fun r1 u1 H1 F1 R1 V1 => ?_⟩
  unfold fKeysS at e2
  split at e2
  · rename_i kvs e3
    cases e4 : intsOf (kvs.map fun kv => keyV kv.1) with
    | none => rw [e4] at e2; cases e2
    | some ns =>
      rw [e4] at e2
      simp only [Option.map_some, Option.some.injEq] at e2
      subst e2
      obtain ⟨d, us, rfl, rd, q⟩ := dictK_rd R1 V1 e3
      refine ⟨d, us, rfl, rd, fun v hv => ⟨v, d, us, ns, rfl, upd_same, rd_new (r := []) (w := []) rd hv, keys_ints q e4, fun ys p hy hs hp => ?_⟩⟩
      have ey : ys = sortI ns := PySem.W.os_sorted_mergeSort hy hs
      subst ey
      have R2 : Rel X.K r1 w h' (upd H1 v (KeysO d v)) := R1.new hv
      exact ((C.fwd F1 R1).fwd (Fwd.new r1 hv) R2).lst R2 hp (VRs.ints _)
  · cases e2
/-- sorted(t), ints -/
theorem call_sortedTup : CallR X (.builtin "sorted") (fun xs H Q => ∃ (a : Addr) (ks : List Int), xs = [.ref a] ∧ SqT X.K H a (ks.map V.int) ∧ ∀ (ys : List Int) (p : Addr), ys.Perm ks → ys.Pairwise (· ≤ ·) → H p = none → Q (.ref p) (upd H p (.lst (ys.map V.int)))) := by
  intro pins s σ H xs us Q I r q
  obtain ⟨a, ks, rfl, hs, q⟩ := q
  obtain ⟨u, rfl, rx⟩ := vals1 r
  cases rx
  obtain ⟨its, rv, ht, hz⟩ := I.tuple hs
  have hS := rv.ints
  have hsz : its.length ≤ sizeLine := by rw [← rv.length]; exact hz
  obtain ⟨o, g1, g2, n, g3⟩ := ht
  refine Calls.call_function_entry PyProof.Rows.kind_sorted PyProof.Rows.plain_sorted PyProof.Rows.entry_sorted (PyProof.Rows.args_sorted1 _) ?_
  unfold Builtin.«sorted»
  refine wpAny_bind (m := checkCount "sorted" 1 1 _) (wpAny_pure ?_)
  refine wpAny_bind (wpAny_collect_seq a (T := "tuple") (.inr rfl) g1 g2 g3 (fun h' hk => ?_) (by simpa using hsz))
  have I1 : Inv X pins σ H { s with heap := h' } := I.kept (t' := s.toks) hk
  refine wpAny_bind (wpAny_newList ?_ (by simpa using hsz))
  have hoL : (h'.push (seqObj "list" its.toArray 0)).get? h'.objs.size = some (seqObj "list" its.toArray 0) := Heap.get?_push_size _ rfl
  show wpAny _ _ _ _ _ { s with heap := h'.push (seqObj "list" its.toArray 0) }
  refine wpAny_bind (wpAny_holding (wpAny_call_entry PyProof.Rows.slot_list_sort ⟨_, hoL, rfl⟩ PyProof.Rows.entry_list_sort
    (SrtO.list_sort_ord (s := { s with heap := h'.push (seqObj "list" its.toArray 0) }) SrtO.swo_int hoL hsz (fun h2 => SrtO.ints_sortable hS h2) fun out g1 g2 => ⟨_, rfl, ?_⟩) (PyProof.Rows.args_list_sort _)))
  obtain ⟨k1, k2, k3⟩ := SrtO.ints_out hS g1 g2
  obtain ⟨e', he'⟩ := PyProof.Rows.sortedHeap_at (vs := its) (out := out.toArray) hoL
  have hlen : ((out.map SrtO.iv).map V.int).length ≤ sizeLine := by
    rw [List.length_map, k2.length_eq]
    simpa using hz
  refine wpAny_pure ⟨_, rfl, .ref h'.objs.size, upd H h'.objs.size (.lst ((out.map SrtO.iv).map V.int)), I1.laid (t' := s.toks) (fun b u e => ?_) (Nat.le_refl _) ⟨hlen, out, e', vals_of_ints k1, he'⟩, rfl, q _ _ k2 k3 (I1.hok.fresh (Nat.le_refl _))⟩
  have hb : b ≠ h'.objs.size := Nat.ne_of_lt (Heap.lt_size e)
  rw [PyProof.Rows.sortedHeap_old hb (Nat.lt_succ_of_lt (Heap.lt_size e) |> fun z => by simpa using z)]
  exact Heap.get?_push_of_some _ e
theorem CallR.or2 {f : Value} {t t' : List V → Hp → VK → Prop} (h : CallR X f t) (h' : CallR X f t') : CallR X f (fun xs H Q => t xs H Q ∨ t' xs H Q) := fun pins s σ H xs us Q I r q => q.elim (h pins s σ H xs us Q I r) (h' pins s σ H xs us Q I r)
theorem lexLe_no {p q : Int × Int} : lexLe p q = true ↔ SrtO.lexB q p = false := by
  rw [SrtO.lexB_no]
  unfold lexLe
  simp only [Bool.or_eq_true, Bool.and_eq_true, decide_eq_true_eq]
  omega
theorem lexLe_anti {p q : Int × Int} (h1 : lexLe p q = true) (h2 : lexLe q p = true) : p = q := by
  unfold lexLe at h1 h2
  simp only [Bool.or_eq_true, Bool.and_eq_true, decide_eq_true_eq] at h1 h2
  exact Prod.ext (by omega) (by omega)
theorem sortedP_eq : ∀ {a b : List (Int × Int)}, a.Perm b → a.Pairwise (fun x y => lexLe x y = true) → b.Pairwise (fun x y => lexLe x y = true) → a = b
  | [], b, h, _, _ => by rw [List.nil_perm.mp h]
  | x :: a, [], h, _, _ => by have := List.perm_nil.mp h; cases this
  | x :: a, y :: b, h, ha, hb => by
    obtain ⟨ha1, ha2⟩ := List.pairwise_cons.mp ha
    obtain ⟨hb1, hb2⟩ := List.pairwise_cons.mp hb
    have e : x = y := by
      have m1 : x ∈ y :: b := h.mem_iff.mp List.mem_cons_self
      have m2 : y ∈ x :: a := h.mem_iff.mpr List.mem_cons_self
      rcases List.mem_cons.mp m1 with q | q
      · exact q
      · rcases List.mem_cons.mp m2 with q2 | q2
        · exact q2.symm
        · exact lexLe_anti (ha1 y q2) (hb1 x q)
    subst e
    rw [sortedP_eq (List.Perm.cons_inv h) ha2 hb2]
theorem sortP_perm (ps : List (Int × Int)) : (sortP ps).Perm ps := List.mergeSort_perm _ _
theorem sortP_sorted (ps : List (Int × Int)) : (sortP ps).Pairwise fun x y => lexLe x y = true := by
  unfold sortP
  refine List.pairwise_mergeSort (fun a b c h1 h2 => ?_) (fun a b => ?_) ps
  · unfold lexLe at h1 h2 ⊢
    simp only [Bool.or_eq_true, Bool.and_eq_true, decide_eq_true_eq] at h1 h2 ⊢
    omega
  · unfold lexLe
    simp only [Bool.or_eq_true, Bool.and_eq_true, decide_eq_true_eq]
    omega
/-- the two ints of a pair -/
def pairAt (H : Hp) : V → Int × Int
  | .ref t => match H t with
    | some (.tup [.int a, .int b]) => (a, b)
    | _ => (0, 0)
  | _ => (0, 0)
theorem pairV_at {r w : List Addr} {H : Hp} {p : Int × Int} {u : V} (q : VR K r w H (pairV p) u) : pairAt H u = p ∧ ∃ t, u = .ref t ∧ H t = some (.tup [.int p.1, .int p.2]) := by
  simp only [pairV, VR, VRs] at q
  obtain ⟨a, us, rfl, ⟨_, ht⟩, u1, t1, rfl, rfl, u2, t2, rfl, rfl, rfl⟩ := q
  exact ⟨by simp only [pairAt, ht], a, rfl, ht⟩
theorem pairsI_vr {r w : List Addr} {H : Hp} : ∀ {xs : List MV} {us : List V} {ps : List (Int × Int)}, VRs K r w H xs us → pairsI xs = some ps → us.map (pairAt H) = ps ∧ ∀ u ∈ us, VR K r w H (pairV (pairAt H u)) u
  | [], us, ps, q, e => by
    simp only [VRs] at q; subst q
    simp only [pairsI, Option.some.injEq] at e; subst e
    exact ⟨rfl, fun u h => nomatch h⟩
  | x :: xs, us, ps, q, e => by
    simp only [VRs] at q
    obtain ⟨u, t, rfl, q1, q2⟩ := q
    unfold pairsI at e
    split at e
    · rename_i a b
      cases e1 : pairsI xs with
      | none => rw [e1] at e; cases e
      | some ps' =>
        rw [e1] at e
        simp only [Option.map_some, Option.some.injEq] at e
        subst e
        obtain ⟨a1, a2⟩ := pairsI_vr q2 e1
        have ea := (pairV_at (p := (a, b)) q1).1
        refine ⟨by rw [List.map_cons, ea, a1], fun v hv => ?_⟩
        rcases List.mem_cons.mp hv with rfl | hv
        · rw [ea]; exact q1
        · exact a2 v hv
    · cases e
theorem vrs_map {r w : List Addr} {H : Hp} {k : V → MV} : ∀ {us : List V}, (∀ u ∈ us, VR K r w H (k u) u) → VRs K r w H (us.map k) us
  | [], _ => by simp [VRs]
  | u :: us, h => by
    simp only [List.map_cons, VRs]
    exact ⟨u, us, rfl, h u List.mem_cons_self, vrs_map fun v hv => h v (List.mem_cons_of_mem _ hv)⟩
theorem mf_sorted (hm : X.mg "sorted" = none) (ha : MA X (e :: es) mas) (hg : Gl X "sorted" := by rfl) (he : starEach (e :: es) X.env = (false, eval e X.env) :: starEach es X.env := by rfl) (hpl : (backTo pos (starEach es X.env)).any (·.1) = false := by rfl) :
    MF X (.Call (.Name "sorted" p) (e :: es) [] pos) (xArgs fSorted mas) := PE.wk (pe_callB (CallR.or2 (CallR.or2 cr_sortedI call_sortedTup) cr_sortedPO) hg hm (by decide +kernel) ha.pa (by decide +kernel) (by decide +kernel) he hpl) fun z H Q ⟨r, w, s, h, v, h', R, S, e, C⟩ => by
  obtain ⟨xs, e1, e2⟩ := xArgs_at e
  refine ⟨r, w, s, h, xs, h', R, S, e1, fun r1 us H1 F1 R1 VA => ?_⟩
  unfold fSorted at e2
  split at e2
  · rename_i v'
    obtain ⟨u, rfl, q⟩ := vrs1 VA
    split at e2
    · rename_i ys e3
      cases e4 : intsOf ys with
      | none =>
        rw [e4] at e2
        simp only at e2
        split at e2
        · rename_i zs e5
          cases e6 : pairsI zs with
          | none => rw [e6] at e2; cases e2
          | some ps =>
            rw [e6] at e2
            simp only [Option.map_some, Option.some.injEq] at e2
            subst e2
            obtain ⟨p, ws, rfl, sq, q2⟩ := list_sq X.K R1 q e5
            obtain ⟨b1, b2⟩ := pairsI_vr q2 e6
            refine .inr ⟨p, ws, pairAt H1, rfl, sq, fun x hx => (pairV_at (b2 x hx)).2, fun ys l hs hb hl => (C.fwd F1 R1).lst R1 hl ?_⟩
            have hp : (ys.map (pairAt H1)).Perm ps := by rw [← b1]; exact hb.perm.map _
            have ho : (ys.map (pairAt H1)).Pairwise fun x y => lexLe x y = true := by
              refine List.pairwise_map.mpr (List.Pairwise.imp (fun {a b} h => ?_) (show ys.Pairwise _ from hs))
              exact lexLe_no.mpr h
            have ey := sortedP_eq (hp.trans (sortP_perm ps).symm) ho (sortP_sorted ps)
            rw [← ey, List.map_map]
            exact vrs_map fun u hu => b2 u (hb.perm.mem_iff.mp hu)
        · cases e2
      | some ns =>
        rw [e4] at e2
        simp only [Option.some.injEq] at e2
        subst e2
        obtain ⟨p, ws, rfl, sq, q2⟩ := seq_sq X.K R1 q e3
        have e5 := ints_of q2 e4
        subst e5
        have fin : ∀ (ys : List Int) (l : Addr), ys.Perm ns → ys.Pairwise (· ≤ ·) → H1 l = none → Q (.ref l) (upd H1 l (.lst (ys.map V.int))) := fun ys l hy hs hl => by
          have ey : ys = sortI ns := PySem.W.os_sorted_mergeSort hy hs
          subst ey
          exact (C.fwd F1 R1).lst R1 hl (VRs.ints _)
        rcases sq with sq | sq
        · exact .inl (.inl ⟨p, ns, rfl, sq, fin⟩)
        · exact .inl (.inr ⟨p, ns, rfl, sq, fin⟩)
    · cases e2
  · cases e2
/-! ### dict(pairs), d.update(e) -/
theorem dictP_of {r w : List Addr} {H : Hp} : ∀ {xs : List MV} {us : List V} {kvs : List (MK × MV)}, VRs K r w H xs us → pairsK xs = some kvs → ∃ (ps : List Addr) (ws : List (Key × V)), us = ps.map V.ref ∧ Paired (fun p kv => SqT K H p [kV kv.1, kv.2]) ps ws ∧ VRk K r w H kvs ws
  | [], us, kvs, q, e => by
    simp only [VRs] at q; subst q
    simp only [pairsK, Option.some.injEq] at e; subst e
    exact ⟨[], [], rfl, .nil, by simp [VRk]⟩
  | x :: xs, us, kvs, q, e => by
    simp only [VRs] at q
    obtain ⟨u, t, rfl, q1, q2⟩ := q
    unfold pairsK at e
    split at e
    · rename_i k v
      cases e1 : keyOf k with
      | none => simp [e1] at e
      | some kk =>
        cases e2 : pairsK xs with
        | none => simp [e1, e2] at e
        | some more =>
          simp only [e1, e2, Option.some.injEq] at e
          subst e
          obtain ⟨ps, ws, rfl, h1, h2⟩ := dictP_of q2 e2
          simp only [VR] at q1
          obtain ⟨a, us, rfl, t1, q3⟩ := q1
          obtain ⟨u1, u2, rfl, q4, q5⟩ := vrs2 q3
          have := key_kV q4 e1
          subst this
          exact ⟨a :: ps, (kk, u2) :: ws, rfl, .cons t1.sq h1, by simp only [VRk]; exact ⟨u2, ws, rfl, q5, h2⟩⟩
    · cases e
theorem mf_dictP (hm : X.mg "dict" = none) (ha : MA X (e :: es) mas) (hc : X.calm = true := by rfl) (hg : Gl X "dict" := by rfl) (he : starEach (e :: es) X.env = (false, eval e X.env) :: starEach es X.env := by rfl) (hpl : (backTo pos (starEach es X.env)).any (·.1) = false := by rfl) :
    MF X (.Call (.Name "dict" p) (e :: es) [] pos) (xArgs fDictP mas) := mf_t (call_dictP hc) (fun r w h H xs v us Q R V e C => by
  unfold fDictP at e
  split at e
  · rename_i v'
    obtain ⟨u, rfl, q⟩ := vrs1 V
    split at e
    · rename_i ys e1
      cases e2 : pairsK ys with
      | none => rw [e2] at e; cases e
      | some kvs =>
        rw [e2] at e
        simp only [Option.map_some, Option.some.injEq] at e
        subst e
        obtain ⟨p, ws, rfl, sq, q2⟩ := list_sq X.K R q e1
        obtain ⟨ps, wk, rfl, h1, h2⟩ := dictP_of q2 e2
        refine ⟨p, ps, wk, rfl, sq, h1, fun d hd => ?_⟩
        refine C r d _ (Fwd.new r hd) hd (R.hold hd) ?_
        simp only [VF]
        exact ⟨_, upd_same, VRk.map (Stp.hold R hd) _ _ (merge_vr (by simp [VRk]) h2)⟩
    · cases e
  · cases e) (by decide +kernel) hm ha hg (by decide +kernel) (by decide +kernel) he hpl
theorem mt_update : MtR X "dict.update" (fun x xs H Q => ∃ (d b : Addr) (kvs more : List (Key × V)), x = .ref d ∧ xs = [.ref b] ∧ d ≠ b ∧ H d = some (.dK kvs) ∧ Rd H b (.dK more) ∧ kvs.length + more.length ≤ sizeLine ∧ Q .non (upd H d (.dK (mergeK kvs more)))) := by
  intro pins s σ H x xs v us Q I rx rxs h
  obtain ⟨d, b, kvs, more, rfl, rfl, hne, hd, hb, hz, q⟩ := h
  cases rx
  obtain ⟨u, rfl, ru⟩ := vals1 rxs
  cases ru
  obtain ⟨z, lo, vs, rel, dd⟩ := dk_of I.hok hd
  obtain ⟨z2, lo2, ws, rel2, dd2⟩ := dk_rd I.hok hb
  refine call_meetsIn F.slot_dict_update dd.typeIs F.entry_dict_update (F.args_dict_update_2 _ _) (meets_dict_update (mixKind X.prog X.w) d b hne lo2) ⟨vs, ws, dd, dd2, by rw [← rel.length, ← rel2.length]; exact hz, fun h' hd' ho' hs => ?_⟩
  have hl := length_mergeK more kvs
  have he : ∃ q, h'.get? d = some q := let ⟨q, _, _, hq, _⟩ := hd'; ⟨q, hq⟩
  exact ⟨.non, _, d_write I (by rw [hd]; exact True.intro) hs he (dk_new (by omega) lo (rel2.merge rel) hd'), rfl, q⟩
theorem me_update {apos : Pos} (ho : ME X o mo) (he : ME X e m) (hbase : attributeBase o "update" X.env (eval o X.env) = eval o X.env := by rfl)
    (hfew : ((backTo pos (starEach [e] X.env)).all (fun x => !x.1) && (backToKw pos (keywordEach [] X.env)).all (fun x => x.1.isSome) && decide ([e].length + ([] : List Keyword).length + (if ([] : List Keyword).isEmpty then 0 else 1) < 30)) = true := by rfl)
    (hline : (apos.endLine == pos.line) = true := by rfl) (hs : starEach (e :: []) X.env = (false, eval e X.env) :: starEach [] X.env := by rfl) (hpl : (backTo pos (starEach [] X.env)).any (·.1) = false := by rfl) :
    ME X (.Call (.Attribute o "update" apos) [e] [] pos) (xUpdate mo m) := PE.wk (pe_bm F.plainAttrs_dict F.slot_dict_update F.type_dict_update mt_update ho (pa_cons he pa_nil hs) hbase hfew hline hs hpl) fun z H Q ⟨r, w, s, h, v, h', R, S, e, C⟩ => by
  unfold xUpdate at e
  split at e
  · rename_i n h1 e1
    split at e
    · rename_i kv0 e0
      split at e
      · rename_i more h2 e2
        split at e
        · rename_i kvs e3
          split at e
          · rename_i hl
            simp only [Option.some.injEq, Prod.mk.injEq] at e
            obtain ⟨rfl, rfl⟩ := e
            refine ⟨r, w, s, h, _, h1, R, S, e1, fun r1 u1 H1 F1 R1 V1 => ?_⟩
            have V1' := V1
            simp only [VR] at V1'
            obtain ⟨a, rfl, hn⟩ := V1'
            have hc0 := R1.at_ n a _ hn e0
            simp only [CRel] at hc0
            obtain ⟨us0, hd0, _⟩ := hc0
            refine ⟨.inr (.inr (.inl ⟨rfl, .inl ⟨_, hd0⟩⟩)), r1, w, s, h1, _, h2, R1, S.fwd F1, e2, fun r2 u2 H2 F2 R2 V2 => ?_⟩
            have hn2 := F2.at_ hn
            have hc := R2.at_ n a _ hn2 e3
            simp only [CRel] at hc
            obtain ⟨us, hd, q⟩ := hc
            simp only [VR] at V2
            obtain ⟨b, ws, rfl, nb, rb, q2⟩ := V2
            have hm : a ∈ r2 := List.mem_of_getElem? hn2
            refine ⟨a, b, us, ws, rfl, rfl, fun z => nb.1 (by rw [← z]; exact hm), hd, rb, by rw [← VRk.length q, ← VRk.length q2, ← szl]; exact hl, ?_⟩
            refine ((C.fwd F1 R1).fwd F2 R2) r2 _ _ (Fwd.put hn2 _ (fun _ _ z => by rw [hd] at z; cases z)) (R2.put hn2 (c := .dK _) ?_) (by simp only [VR])
            simp only [CRel]
            exact ⟨_, upd_same, VRk.map (Stp.put hn2 _) _ _ (merge_vr q q2)⟩
          · cases e
        · cases e
      · cases e
    · cases e
  · cases e
/-! ### == of dicts -/
/-- the items looked up -/
inductive HitsV (K : PySem.W.Frag) (H : Hp) (ls : List (Key × V)) : List (Key × V) → Bool → Prop
  | nil : HitsV K H ls [] true
  | miss {k : Key} {v : V} {r : List (Key × V)} : valV ls k = none → HitsV K H ls ((k, v) :: r) false
  | hit {k : Key} {v y : V} {d f : PyData} {r : List (Key × V)} {b : Bool} : valV ls k = some y → Dp K H v d → Dp K H y f → SeqAt.shaped d = true → SeqAt.shaped f = true → HitsV K H ls r b → HitsV K H ls ((k, v) :: r) (PyData.eqv d f && b)
theorem hitsV_run {pins : List (Addr × Obj)} {σ : L2.St} {H : Hp} {s : Shared} (I : Inv X pins σ H s) (hu : X.A.in1.units + 64 < cLine) {ls : List (Key × V)} {vb : List (Key × Value)} (rb : KV ls vb) {ks : List (Key × V)} {t : Bool} (h : HitsV X.K H ls ks t) :
    ∀ {va : List (Key × Value)}, KV ks va → PySem.W.KeqHits X.A.in1 s vb va t := by
  induction h with
  | nil => intro va ra; cases ra; exact .nil
  | @miss k v rest e =>
    intro va ra
    cases ra with
    | @cons _ q _ qs h1 h2 =>
      obtain ⟨k', v'⟩ := q
      obtain ⟨h3, h4⟩ := h1
      have h3' : k = k' := h3
      subst h3'
      have rr : RelO none (valueAt vb k) := by rw [← e]; exact rb.val k
      exact .miss (by cases z : valueAt vb k with
        | none => rfl
        | some y => rw [z] at rr; exact rr.elim)
  | @hit k v y d f rest t e d1 d2 s1 s2 hr ih =>
    intro va ra
    cases ra with
    | @cons _ q _ qs h1 h2 =>
      obtain ⟨k', v'⟩ := q
      obtain ⟨h3, h4⟩ := h1
      have h3' : k = k' := h3
      subst h3'
      have rr : RelO (some y) (valueAt vb k) := by rw [← e]; exact rb.val k
      obtain ⟨y', hy, ry⟩ := rr.some_of
      obtain ⟨as, r1⟩ := Dp.reads I d v v' d1 h4
      obtain ⟨bs, r2⟩ := Dp.reads I f y y' d2 ry
      exact .hit hy (PySem.W.keq_at r1 r2 s1 s2 hu) (ih h2)
theorem op_eqDK (hu : X.A.in1.units + 64 < cLine) : OpR X (compareOp .Eq) (fun x y H Q => ∃ a b ks ls t, x = .ref a ∧ y = .ref b ∧ Rd H a (.dK ks) ∧ Rd H b (.dK ls) ∧ HitsV X.K H ls ks t ∧ Q (.bl (ks.length == ls.length && t)) H) := by
  intro pins s σ H x y v u Q I rx ry h
  obtain ⟨a, b, ks, ls, t, rfl, rfl, ha, hb, ht, q⟩ := h
  cases rx
  cases ry
  obtain ⟨_, ya, va, ra, da⟩ := dk_rd I.hok ha
  obtain ⟨_, yb, vb, rb, db⟩ := dk_rd I.hok hb
  have hu1 : X.A.units < cLine := by have : X.A.in1.units = X.A.units + 1 := rfl; omega
  refine PySem.W.keq_eq (knd := mixKind X.prog X.w) (r := t) ya yb da db hu1 (fun _ => hitsV_run I hu rb ht ra) ⟨.bl _, H, I, ?_, q⟩
  show Value.bool _ = Value.bool _
  rw [ra.length, rb.length]
theorem op_neDK (hu : X.A.in1.units + 64 < cLine) : OpR X (compareOp .NotEq) (fun x y H Q => ∃ a b ks ls t, x = .ref a ∧ y = .ref b ∧ Rd H a (.dK ks) ∧ Rd H b (.dK ls) ∧ HitsV X.K H ls ks t ∧ Q (.bl (!(ks.length == ls.length && t))) H) := by
  intro pins s σ H x y v u Q I rx ry h
  obtain ⟨a, b, ks, ls, t, rfl, rfl, ha, hb, ht, q⟩ := h
  cases rx
  cases ry
  obtain ⟨_, ya, va, ra, da⟩ := dk_rd I.hok ha
  obtain ⟨_, yb, vb, rb, db⟩ := dk_rd I.hok hb
  have hu1 : X.A.units < cLine := by have : X.A.in1.units = X.A.units + 1 := rfl; omega
  refine PySem.W.keq_ne (knd := mixKind X.prog X.w) (r := t) ya yb da db hu1 (fun _ => hitsV_run I hu rb ht ra) ⟨.bl _, H, I, ?_, q⟩
  show Value.bool _ = Value.bool _
  rw [ra.length, rb.length]
theorem isD_mono : ∀ (n k : Nat) (v : MV), n ≤ k → isD n v = true → isD k v = true := by
  have key : ∀ n k, n ≤ k → (∀ v, isD n v = true → isD k v = true) ∧ ∀ vs, isDs n vs = true → isDs k vs = true := by
    intro n
    induction n with
    | zero =>
      intro k hk
      have h1 : ∀ v, isD 0 v = true → isD k v = true := fun v h => by cases v <;> cases k <;> simp_all [isD]
      refine ⟨h1, fun vs => ?_⟩
      induction vs with
      | nil => intro _; simp [isDs]
      | cons v vs ih => intro h; simp only [isDs, Bool.and_eq_true] at h ⊢; exact ⟨h1 v h.1, ih h.2⟩
    | succ n ih =>
      intro k hk
      obtain ⟨k, rfl⟩ : ∃ j, k = j + 1 := ⟨k - 1, by omega⟩
      have h1 : ∀ v, isD (n + 1) v = true → isD (k + 1) v = true := fun v h => by
        cases v <;> simp only [isD] at h ⊢ <;> first | exact h | exact (ih k (by omega)).2 _ h
      refine ⟨h1, fun vs => ?_⟩
      induction vs with
      | nil => intro _; simp [isDs]
      | cons v vs ih => intro h; simp only [isDs, Bool.and_eq_true] at h ⊢; exact ⟨h1 v h.1, ih h.2⟩
  exact fun n k v hk => (key n k hk).1 v
theorem hits_of {r w : List Addr} {H : Hp} {ys : List (MK × MV)} {ls : List (Key × V)} (q2 : VRk K r w H ys ls) (d2 : dataKs ys = true) : ∀ {xs : List (MK × MV)} {ks : List (Key × V)}, VRk K r w H xs ks → dataKs xs = true →
    HitsV K H ls ks (xs.all fun kv => match getK ys kv.1 with | some y => eqD kv.2 y | none => false)
  | [], ks, q, _ => by simp only [VRk] at q; subst q; exact .nil
  | (k, v) :: xs, ks, q, d => by
    simp only [VRk] at q
    obtain ⟨u, t, rfl, q3, q4⟩ := q
    unfold dataKs at d
    rw [List.all_cons, Bool.and_eq_true] at d
    rw [List.all_cons]
    have ih := hits_of q2 d2 q4 (by unfold dataKs; exact d.2)
    rcases VRk.get k q2 with ⟨g1, g2⟩ | ⟨x, u2, g1, g2, g3⟩
    · simp only [g1, Bool.false_and]
      exact .miss g2
    · simp only [g1]
      have dx : isD 60 v = true := isD_mono 50 60 v (by omega) d.1
      have dy : isD 60 x = true := by
        have : ∃ kv ∈ ys, kv.2 = x := by
          unfold getK at g1
          cases e : ys.find? fun kv => decide (kv.1 = k) with
          | none => rw [e] at g1; cases g1
          | some kv =>
            rw [e] at g1
            exact ⟨kv, List.mem_of_find?_eq_some e, by simpa using g1⟩
        obtain ⟨kv, hm, rfl⟩ := this
        exact isD_mono 50 60 _ (by omega) (List.all_eq_true.mp d2 kv hm)
      rw [← toP_eqv v x 60 dx dy]
      exact .hit g2 (toP_dp K v u 60 dx q3) (toP_dp K x u2 60 dy g3) (shaped_of dx) (shaped_of dy) ih
theorem OpR.or2 {f : Value → Value → Sem Value} {t t' : R2} (h : OpR X f t) (h' : OpR X f t') : OpR X f (fun x y H Q => t x y H Q ∨ t' x y H Q) := fun pins s σ H x y v u Q I rx ry q => q.elim (h pins s σ H x y v u Q I rx ry) (h' pins s σ H x y v u Q I rx ry)
theorem Room.u1 {k : Nat} (hr : Room k X.A) : X.A.in1.units + 64 < cLine := by
  have h := hr.un
  have : X.A.in1.units = X.A.units + 1 := rfl
  omega
theorem c_eqA {k : Nat} (hr : Room k X.A) (ha : ME X a ma) (hb : ME X b mb) : ME X (.Compare a [.Eq] [b] pos) (xOp opEq ma mb) ∧ MT X (.Compare a [.Eq] [b] pos) (xB (xOp opEq ma mb)) := c_cmp (OpR.or2 (op_eqDK (Room.u1 hr)) (op_eqD hr.units)) (fun r w h H x y v u1 u2 Q R V1 V2 e C => by
  unfold opEq at e
  split at e
  · rename_i xs ys e1 e2
    split at e
    · rename_i d
      rw [Bool.and_eq_true] at d
      simp only [Option.some.injEq] at e
      subst e
      obtain ⟨a, ks, rfl, rd, q⟩ := dictK_rd R V1 e1
      obtain ⟨b, ls, rfl, rd2, q2⟩ := dictK_rd R V2 e2
      refine .inl ⟨a, b, ks, ls, _, rfl, rfl, rd, rd2, hits_of q2 d.2 q d.1, C.now R ?_⟩
      simp only [VR, eqKs]
      rw [VRk.length q, VRk.length q2]
      try rfl
    · cases e
  · unfold opEq0 eqM at e
    split at e
    · rename_i d
      rw [Bool.and_eq_true] at d
      simp only [Option.map_some, Option.some.injEq] at e
      subst e
      refine .inr ⟨_, _, rd_dp X.K R V1 d.1, rd_dp X.K R V2 d.2, shaped_of d.1, shaped_of d.2, C.now R ?_⟩
      simp only [VR]
      rw [toP_eqv _ _ 60 d.1 d.2]
    · cases e) ha hb (nomark _)
theorem c_neA {k : Nat} (hr : Room k X.A) (ha : ME X a ma) (hb : ME X b mb) : ME X (.Compare a [.NotEq] [b] pos) (xOp opNe ma mb) ∧ MT X (.Compare a [.NotEq] [b] pos) (xB (xOp opNe ma mb)) := c_cmp (OpR.or2 (op_neDK (Room.u1 hr)) (op_neD hr.units)) (fun r w h H x y v u1 u2 Q R V1 V2 e C => by
  unfold opNe at e
  split at e
  · rename_i xs ys e1 e2
    split at e
    · rename_i d
      rw [Bool.and_eq_true] at d
      simp only [Option.some.injEq] at e
      subst e
      obtain ⟨a, ks, rfl, rd, q⟩ := dictK_rd R V1 e1
      obtain ⟨b, ls, rfl, rd2, q2⟩ := dictK_rd R V2 e2
      refine .inl ⟨a, b, ks, ls, _, rfl, rfl, rd, rd2, hits_of q2 d.2 q d.1, C.now R ?_⟩
      simp only [VR, eqKs]
      rw [VRk.length q, VRk.length q2]
      try rfl
    · cases e
  · unfold opNe0 eqM at e
    split at e
    · rename_i d
      rw [Bool.and_eq_true] at d
      simp only [Option.map_some, Option.some.injEq] at e
      subst e
      refine .inr ⟨_, _, rd_dp X.K R V1 d.1, rd_dp X.K R V2 d.2, shaped_of d.1, shaped_of d.2, C.now R ?_⟩
      simp only [VR]
      rw [toP_eqv _ _ 60 d.1 d.2]
    · cases e) ha hb (nomark _)
theorem c_isB (ha : ME X a ma) (hb : ME X b mb) : ME X (.Compare a [.Is] [b] pos) (xOp opIsBl ma mb) ∧ MT X (.Compare a [.Is] [b] pos) (xB (xOp opIsBl ma mb)) := c_cmp op_isBl (fun r w h H x y v u1 u2 Q R V1 V2 e C => by
  cases x <;> cases y <;> simp only [opIsBl, reduceCtorEq, Option.some.injEq] at e
  subst e
  simp only [VR] at V1 V2
  exact ⟨_, _, V1, V2, C.now R (by simp only [VR])⟩) ha hb (nomark _)
theorem c_notB (ha : ME X a ma) (hb : ME X b mb) : ME X (.Compare a [.IsNot] [b] pos) (xOp opNotBl ma mb) ∧ MT X (.Compare a [.IsNot] [b] pos) (xB (xOp opNotBl ma mb)) := c_cmp op_notBl (fun r w h H x y v u1 u2 Q R V1 V2 e C => by
  cases x <;> cases y <;> simp only [opNotBl, reduceCtorEq, Option.some.injEq] at e
  subst e
  simp only [VR] at V1 V2
  exact ⟨_, _, V1, V2, C.now R (by simp only [VR])⟩) ha hb (nomark _)
/-! ### unpacking a list -/
theorem mg_unl {gs : XGs} {k n : Nat} (h : MGs X es gs) (hn : (assignEach es X.env).length = n := by rfl) (hst : (assignEach es X.env).findIdx? (·.1) = none := by rfl) (hc : X.calm = true := by rfl) : MG X (.Tuple es k pos) (gLp n gs) := PG.wk (pg_unl hc h hn hst) fun u z H Q ⟨r, w, s, h, v, s', h', R, S, V, e, C⟩ => by
  unfold gLp at e
  split at e
  · rename_i xs e1
    split at e
    · rename_i hl
      obtain ⟨p, us, rfl, sq, q⟩ := list_sq X.K R V e1
      exact ⟨p, us, rfl, sq, by rw [← VRs.length q]; exact hl, r, w, s, h, xs, s', h', R, S, q, e, C⟩
    · cases e
  · cases e
/-! ### for k in d.keys() -/
theorem Stp.lockK {r w : List Addr} {H : Hp} {d : Addr} {od : Obj} {us : List (Key × V)} (e : H d = some (.dK us)) : Stp r w H r w (upd H d (.frz od (.dK us))) := ⟨fun _ _ h => h, fun a o n ea => ⟨n, by
  by_cases q : a = d
  · subst q
    rw [e] at ea; cases ea
    exact .inr (.inl ⟨od, us, rfl, upd_same⟩)
  · exact .inl (by rw [upd_ne q]; exact ea)⟩⟩
theorem Stp.unlockK {r w : List Addr} {H : Hp} {d : Addr} {od : Obj} {us : List (Key × V)} (e : H d = some (.frz od (.dK us))) : Stp r w H r w (upd H d (.dK us)) := ⟨fun _ _ h => h, fun a o n ea => ⟨n, by
  by_cases q : a = d
  · subst q
    rw [e] at ea; cases ea
    exact .inr (.inr (.inl ⟨od, us, rfl, upd_same⟩))
  · exact .inl (by rw [upd_ne q]; exact ea)⟩⟩
theorem Rel.stp {r w : List Addr} {h : MH} {H : Hp} {d : Addr} {o : HO} (R : Rel K r w h H) (F : Stp r w H r w (upd H d o)) (hd : d ∉ r) : Rel K r w h (upd H d o) :=
  ⟨R.len, R.nd, fun n a c hn hc => (R.at_ n a c hn hc).map F (upd_ne fun z => hd (by rw [← z]; exact List.mem_of_getElem? hn)), fun p hp => by
    obtain ⟨n, u, e⟩ := R.wh p hp
    refine ⟨n, ?_⟩
    by_cases q : p = d
    · exact ⟨o, by rw [q, upd_same]⟩
    · exact ⟨u, by rw [upd_ne q]; exact e⟩⟩
theorem walks_keys (K : PySem.W.Frag) {r w : List Addr} {H : Hp} {d : Addr} {od : Obj} {kvs : List (MK × MV)} {us : List (Key × V)} (e : H d = some (.frz od (.dK us))) (q : VRk K r w H kvs us) : Walks K (Itk d od us) (kvs.map fun kv => keyV kv.1) r w H := by
  have hk : us.map (·.1) = kvs.map (·.1) := VRk.keys q
  have hl : us.length = kvs.length := by simpa using congrArg List.length hk
  refine ⟨fun i r1 w1 H1 h1 F _ R1 hi => ⟨⟨F.frz _ _ _ e, by rw [hl]; simpa using hi⟩, fun x H2 ⟨eH, k, v, e1, e2⟩ => ?_⟩, fun i r1 w1 H1 h1 F _ R1 hi => ⟨F.frz _ _ _ e, by rw [hl]; exact Nat.le_of_eq (by simpa using hi)⟩⟩
  subst eH e2
  refine ⟨Fwd.refl _ _, R1, keyV k, ?_, keyV_vr k⟩
  have e3 : (us.map (·.1))[i]? = some k := by rw [List.getElem?_map, e1]; rfl
  rw [hk, List.getElem?_map] at e3
  cases e4 : kvs[i]? with
  | none => rw [e4] at e3; cases e3
  | some kv =>
    rw [e4] at e3
    rw [List.getElem?_map, e4]
    have e5 : kv.1 = k := Option.some.inj e3
    rw [← e5]
    rfl
theorem Fwd.relock {r r1 : List Addr} {H H1 : Hp} {d : Addr} {od : Obj} {us : List (Key × V)} (e : H d = some (.dK us)) (F : Fwd r (upd H d (.frz od (.dK us))) r1 H1) : H1 d = some (.frz od (.dK us)) ∧ Fwd r H r1 (upd H1 d (.dK us)) := by
  have h1 : H1 d = some (.frz od (.dK us)) := F.frz _ _ _ upd_same
  refine ⟨h1, ?_, fun a o n ea => ?_, fun a o u ea => ?_⟩
  · obtain ⟨ps, rfl, hp⟩ := F.ext
    refine ⟨ps, rfl, fun p hm => ?_⟩
    have := hp p hm
    by_cases ne : p = d
    · subst ne; rw [upd_same] at this; cases this
    · rwa [upd_ne ne] at this
  · by_cases ne : a = d
    · subst ne
      rw [upd_same, ← e, ea]
    · rw [upd_ne ne]
      exact F.keep a o n (by rw [upd_ne ne]; exact ea)
  · have ne : a ≠ d := fun z => by rw [z, e] at ea; cases ea
    rw [upd_ne ne]
    exact F.frz a o u (by rw [upd_ne ne]; exact ea)
/-- a cell's dict is locked, unlocked -/
theorem Rel.lock {r w : List Addr} {h : MH} {H : Hp} {n : Nat} {d : Addr} {od : Obj} {us : List (Key × V)} {kvs : List (MK × MV)} (R : Rel K r w h H) (hn : r[n]? = some d) (e : H d = some (.dK us)) (q : VRk K r w H kvs us) : Rel K r w (h.set n (.lkK kvs)) (upd H d (.frz od (.dK us))) := by
  have St : Stp r w H r w (upd H d (.frz od (.dK us))) := Stp.lockK e
  have hd : d ∈ r := List.mem_of_getElem? hn
  refine ⟨by rw [List.length_set]; exact R.len, R.nd, fun m a c hm hc => ?_, fun p hp => ?_⟩
  · by_cases z : m = n
    · subst z
      rw [hm] at hn; cases hn
      have hl := (List.getElem?_eq_some_iff.mp hc).1
      rw [List.length_set] at hl
      rw [List.getElem?_set_self hl] at hc
      cases hc
      exact ⟨od, us, upd_same, VRk.map St _ _ q⟩
    · rw [List.getElem?_set_ne (Ne.symm z)] at hc
      refine (R.at_ m a c hm hc).map St (upd_ne fun ea => z ?_)
      subst ea
      exact (List.getElem?_inj (List.getElem?_eq_some_iff.mp hm).1 R.nd).mp (hm.trans hn.symm)
  · obtain ⟨np, o, ep⟩ := R.wh p hp
    exact ⟨np, o, by rw [upd_ne (fun z => np (by rw [z]; exact hd))]; exact ep⟩
theorem Rel.unlock {r w : List Addr} {h : MH} {H : Hp} {n : Nat} {d : Addr} {od : Obj} {us : List (Key × V)} {kvs : List (MK × MV)} (R : Rel K r w h H) (hn : r[n]? = some d) (e : H d = some (.frz od (.dK us))) (hc : h[n]? = some (.lkK kvs)) : Rel K r w (h.set n (.dK kvs)) (upd H d (.dK us)) := by
  have St : Stp r w H r w (upd H d (.dK us)) := Stp.unlockK e
  have hd : d ∈ r := List.mem_of_getElem? hn
  have c0 := R.at_ n d _ hn hc
  simp only [CRel] at c0
  obtain ⟨o, us', e2, q⟩ := c0
  rw [e] at e2
  cases e2
  refine ⟨by rw [List.length_set]; exact R.len, R.nd, fun m a c hm hc => ?_, fun p hp => ?_⟩
  · by_cases z : m = n
    · subst z
      rw [hm] at hn; cases hn
      have hl := (List.getElem?_eq_some_iff.mp hc).1
      rw [List.length_set] at hl
      rw [List.getElem?_set_self hl] at hc
      cases hc
      exact ⟨us, upd_same, VRk.map St _ _ q⟩
    · rw [List.getElem?_set_ne (Ne.symm z)] at hc
      refine (R.at_ m a c hm hc).map St (upd_ne fun ea => z ?_)
      subst ea
      exact (List.getElem?_inj (List.getElem?_eq_some_iff.mp hm).1 R.nd).mp (hm.trans hn.symm)
  · obtain ⟨np, o, ep⟩ := R.wh p hp
    exact ⟨np, o, by rw [upd_ne (fun z => np (by rw [z]; exact hd))]; exact ep⟩
variable {sts : List Stmt} {x : XS} {g : XG} {tg : Expr}
theorem ms_forK {n : Nat} {t : Str} {p1 apos cpos : Pos} (hN : X.N[n]? = some t := by rfl) (hg : MG X tg g) (hb : MSs X sts x) (hv : Vis X.env.scope t := by first | exact Or.inl rfl | exact Or.inr (Or.inl rfl) | exact Or.inr (Or.inr rfl)) (hd : (t == ("__debug__" : Str)) = false := by decide +kernel)
    (hcd : (t == ("__classdict__" : Str)) = false := by decide +kernel) (hs : ∀ x, foldedSetIterable (.Call (.Attribute (.Name t p1) "keys" apos) [] [] cpos) X.env x = pure x := by intro _; rfl) (hp : PassesOwn (model X.prog X.w) X.A X.env X.xe := by exact PassesOwn.never) (hc : X.calm = true := by rfl)
    (hbase : attributeBase (.Name t p1) "keys" X.env (eval (.Name t p1) X.env) = eval (.Name t p1) X.env := by rfl) (hline : (apos.endLine == cpos.line) = true := by rfl) :
    MS X (.For tg (.Call (.Attribute (.Name t p1) "keys" apos) [] [] cpos) sts [] pos) (sForK n g x) := by
  have base := ps_for (pos := pos) hp hc (pi_keysM (apos := apos) (cpos := cpos) (pe_var (pos := p1) hN hv hd hcd) hbase hline) hg hb
  refine PS.wk (PS.or2 base (ps_lock base)) fun D z H ⟨r, w, s, h, f, s', h', R, S, e, C⟩ => ?_
  unfold sForK at e
  split at e
  · rename_i kvs e1
    obtain ⟨u, g1, g2⟩ := S.2 n _ e1
    have g2' := g2
    simp only [VR] at g2'
    obtain ⟨d, us, rfl, nd, rd, q⟩ := g2'
    rcases rd with rd | ⟨od, rd⟩
    · refine .inr ⟨d, .dK us, rd, True.intro, fun od => ?_⟩
      have St : Stp r w H r w (upd H d (.frz od (.dK us))) := Stp.lockK rd
      have R1 := R.stp St nd.1
      refine ⟨.ref d, g1, d, od, us, rfl, upd_same, ?_⟩
      refine for_vals (tb := tS X.K x) (walks_keys X.K upd_same (VRk.map St _ _ q)) R1 (S.map St) e ?_
      have back : ∀ {r1 : List Addr} {H1 : Hp} {h1 : MH}, Fwd r (upd H d (.frz od (.dK us))) r1 H1 → Rel X.K r1 w h1 H1 → H1 d = some (.frz od (.dK us)) ∧ Fwd r H r1 (upd H1 d (.dK us)) ∧ Stp r1 w H1 r1 w (upd H1 d (.dK us)) ∧ Rel X.K r1 w h1 (upd H1 d (.dK us)) := fun {r1 H1 h1} F R1 => by
        obtain ⟨a1, a2⟩ := Fwd.relock rd F
        have St2 := Stp.unlockK (r := r1) (w := w) a1
        exact ⟨a1, a2, St2, R1.stp St2 (F.nin nd.1 upd_same)⟩
      cases f <;> simp only [EndS] at C ⊢
      · exact fun r1 z1 H1 F R1 S1 => by obtain ⟨a1, a2, a3, a4⟩ := back F R1; exact ⟨a1, C r1 z1 _ a2 a4 (S1.map a3)⟩
      · exact fun r1 u1 H1 F R1 V1 => by obtain ⟨a1, a2, a3, a4⟩ := back F R1; exact ⟨a1, C r1 u1 _ a2 a4 (VR.map a3 _ _ V1)⟩
      · exact fun r1 z1 H1 F R1 S1 => by obtain ⟨a1, a2, a3, a4⟩ := back F R1; exact ⟨a1, C r1 z1 _ a2 a4 (S1.map a3)⟩
      · exact fun r1 z1 H1 F R1 S1 => by obtain ⟨a1, a2, a3, a4⟩ := back F R1; exact ⟨a1, C r1 z1 _ a2 a4 (S1.map a3)⟩
    · exact .inl ⟨.ref d, g1, d, od, us, rfl, rd, for_vals (tb := tS X.K x) (walks_keys X.K rd q) R S e C⟩
  · rename_i m e1
    split at e
    · rename_i kvs e2
      cases e3 : forGo g x (kvs.map fun kv => keyV kv.1) s (h.set m (.lkK kvs)) with
      | none => rw [e3] at e; cases e
      | some t3 =>
        obtain ⟨f1, s1, h1⟩ := t3
        rw [e3] at e
        simp only at e
        split at e
        · rename_i kvs' e4
          simp only [Option.some.injEq, Prod.mk.injEq] at e
          obtain ⟨rfl, rfl, rfl⟩ := e
          obtain ⟨u, g1, g2⟩ := S.2 n _ e1
          simp only [VR] at g2
          obtain ⟨d, rfl, hm⟩ := g2
          have c0 := R.at_ m d _ hm e2
          simp only [CRel] at c0
          obtain ⟨us, rd, q⟩ := c0
          refine .inr ⟨d, .dK us, rd, True.intro, fun od => ?_⟩
          have St : Stp r w H r w (upd H d (.frz od (.dK us))) := Stp.lockK rd
          have R1 := R.lock (od := od) hm rd q
          refine ⟨.ref d, g1, d, od, us, rfl, upd_same, ?_⟩
          refine for_vals (tb := tS X.K x) (walks_keys X.K upd_same (VRk.map St _ _ q)) R1 (S.map St) e3 ?_
          have back : ∀ {r1 : List Addr} {H1 : Hp}, Fwd r (upd H d (.frz od (.dK us))) r1 H1 → Rel X.K r1 w h1 H1 → H1 d = some (.frz od (.dK us)) ∧ Fwd r H r1 (upd H1 d (.dK us)) ∧ Stp r1 w H1 r1 w (upd H1 d (.dK us)) ∧ Rel X.K r1 w (h1.set m (.dK kvs')) (upd H1 d (.dK us)) := fun {r1 H1} F R1 => by
            obtain ⟨a1, a2⟩ := Fwd.relock rd F
            exact ⟨a1, a2, Stp.unlockK a1, R1.unlock (F.at_ hm) a1 e4⟩
          cases f1 <;> simp only [EndS] at C ⊢
          · exact fun r1 z1 H1 F R1 S1 => by obtain ⟨a1, a2, a3, a4⟩ := back F R1; exact ⟨a1, C r1 z1 _ a2 a4 (S1.map a3)⟩
          · exact fun r1 u1 H1 F R1 V1 => by obtain ⟨a1, a2, a3, a4⟩ := back F R1; exact ⟨a1, C r1 u1 _ a2 a4 (VR.map a3 _ _ V1)⟩
          · exact fun r1 z1 H1 F R1 S1 => by obtain ⟨a1, a2, a3, a4⟩ := back F R1; exact ⟨a1, C r1 z1 _ a2 a4 (S1.map a3)⟩
          · exact fun r1 z1 H1 F R1 S1 => by obtain ⟨a1, a2, a3, a4⟩ := back F R1; exact ⟨a1, C r1 z1 _ a2 a4 (S1.map a3)⟩
        · cases e
    · cases e
  · cases e
/-! ### [.. for k in d.keys()] -/
theorem lcK_wk {K : PySem.W.Frag} {n : Nat} {gt : TG} {gm : XG} {c : XT} {me : XE} {own : List Nat} (tg : TgOk K own gt gm) : ∀ z H Q, tF K (xLcK n gm c me own) z H Q →
    tLc (iKeysM (tVar n)) gt (tT K c) (tM K me) own z H Q ∨ ∃ d u, H d = some u ∧ Mut (some u) ∧ ∀ od, tLc (iKeysM (tVar n)) gt (tT K c) (tM K me) own z (upd H d (.frz od u)) fun v H' => H' d = some (.frz od u) ∧ Q v (upd H' d u) := fun z H Q ⟨r, w, s, h, v, h', R, S, ev, C⟩ => by
  unfold xLcK at ev
  split at ev
  · rename_i kvs e1
    split at ev
    · rename_i ys h2 e2
      simp only [Option.some.injEq, Prod.mk.injEq] at ev
      obtain ⟨rfl, rfl⟩ := ev
      obtain ⟨u, g1, g2⟩ := S.2 n _ e1
      simp only [VR] at g2
      obtain ⟨d, us, rfl, nd, rd, q⟩ := g2
      rcases rd with rd | ⟨od, rd⟩
      · refine .inr ⟨d, .dK us, rd, True.intro, fun od => ?_⟩
        have St : Stp r w H r w (upd H d (.frz od (.dK us))) := Stp.lockK rd
        have R1 := R.stp St nd.1
        refine ⟨.ref d, g1, d, od, us, rfl, upd_same, fun D hD => ?_⟩
        refine lc_vals (Q := fun v H' => H' d = some (.frz od (.dK us)) ∧ Q v (upd H' d (.dK us))) (walks_keys K upd_same (VRk.map St _ _ q)) tg R1 (S.map St) hD e2 fun r1 p H1 F n R2 V2 => ?_
        obtain ⟨a1, a2⟩ := Fwd.relock rd F
        have ne : p ≠ d := fun z => by rw [z, upd_same] at n; cases n
        have St2 := Stp.unlockK (r := r1) (w := p :: w) a1
        refine ⟨a1, C r1 p _ a2 (by rwa [upd_ne ne] at n) (R2.stp St2 (F.nin nd.1 upd_same)) (VF.map St2 (upd_ne ne) V2)⟩
      · exact .inl ⟨.ref d, g1, d, od, us, rfl, rd, fun D hD => lc_vals (walks_keys K rd q) tg R S hD e2 C⟩
    · cases ev
  · rename_i m e1
    split at ev
    · rename_i kvs e2
      split at ev
      · rename_i ys h2 e3
        split at ev
        · rename_i kvs' e4
          simp only [Option.some.injEq, Prod.mk.injEq] at ev
          obtain ⟨rfl, rfl⟩ := ev
          obtain ⟨u, g1, g2⟩ := S.2 n _ e1
          simp only [VR] at g2
          obtain ⟨d, rfl, hm⟩ := g2
          have c0 := R.at_ m d _ hm e2
          simp only [CRel] at c0
          obtain ⟨us, rd, q⟩ := c0
          refine .inr ⟨d, .dK us, rd, True.intro, fun od => ?_⟩
          have St : Stp r w H r w (upd H d (.frz od (.dK us))) := Stp.lockK rd
          have R1 := R.lock (od := od) hm rd q
          refine ⟨.ref d, g1, d, od, us, rfl, upd_same, fun D hD => ?_⟩
          refine lc_vals (Q := fun v H' => H' d = some (.frz od (.dK us)) ∧ Q v (upd H' d (.dK us))) (walks_keys K upd_same (VRk.map St _ _ q)) tg R1 (S.map St) hD e3 fun r1 p H1 F n R2 V2 => ?_
          obtain ⟨a1, a2⟩ := Fwd.relock rd F
          have ne : p ≠ d := fun z => by rw [z, upd_same] at n; cases n
          have St2 := Stp.unlockK (r := r1) (w := p :: w) a1
          exact ⟨a1, C r1 p _ a2 (by rwa [upd_ne ne] at n) (R2.unlock (F.at_ hm) a1 e4) (VF.map St2 (upd_ne ne) V2)⟩
        · cases ev
      · cases ev
    · cases ev
  · cases ev
theorem mf_lcK {n : Nat} {t : Str} {p1 apos cpos : Pos} {elt : Expr} {ifs : List Expr} {scope : Scope} {own : List (Str × Nat)} {gm : XG} {gt : TG} {c : XT} {me : XE} (hN : X.N.Nodup) (hn : X.N[n]? = some t) (ok : blkC X.N X.env.scope scope own = true) (tk : TgOk X.K (own.map (·.2)) gt gm)
    (hg : ∀ (s : Shared) (H : Hp) (C : Addr) (cl : List (Str × Addr)) (fp : List Addr), PG (X.blk s H scope (compEnvC scope cl C X.env) fp) tg gt)
    (ht : ∀ (s : Shared) (H : Hp) (C : Addr) (cl : List (Str × Addr)) (fp : List Addr), MTs (X.blk s H scope (compEnvC scope cl C X.env) fp) ifs c)
    (he : ∀ (s : Shared) (H : Hp) (C : Addr) (cl : List (Str × Addr)) (fp : List Addr), ME (X.blk s H scope (compEnvC scope cl C X.env) fp) elt me)
    (hv : Vis X.env.scope t := by first | exact Or.inl rfl | exact Or.inr (Or.inl rfl) | exact Or.inr (Or.inr rfl)) (hd : (t == ("__debug__" : Str)) = false := by decide +kernel) (hcd : (t == ("__classdict__" : Str)) = false := by decide +kernel)
    (hs : ∀ x, foldedSetIterable (.Call (.Attribute (.Name t p1) "keys" apos) [] [] cpos) X.env x = pure x := by intro _; rfl) (hc : X.calm = true := by rfl)
    (hbase : attributeBase (.Name t p1) "keys" X.env (eval (.Name t p1) X.env) = eval (.Name t p1) X.env := by rfl) (hline : (apos.endLine == cpos.line) = true := by rfl) :
    MF X (.ListComp elt [⟨tg, .Call (.Attribute (.Name t p1) "keys" apos) [] [] cpos, ifs, 0⟩] scope pos) (xLcK n gm c me (own.map (·.2))) := by
  have base : PE X (.ListComp elt [⟨tg, .Call (.Attribute (.Name t p1) "keys" apos) [] [] cpos, ifs, 0⟩] scope pos) (tLc (iKeysM (tVar n)) gt (tT X.K c) (tM X.K me) (own.map (·.2))) := pe_lc hc hN (pi_keysM (apos := apos) (cpos := cpos) (pe_var (pos := p1) hn hv hd hcd) hbase hline) (blkOk_by ok) hg ht he hs
  exact PE.wk (PE.or2 base (pe_lock base)) (lcK_wk tk)
theorem ms_setLcK {n j : Nat} {t y : Str} {p1 apos cpos py spos : Pos} {elt : Expr} {ifs : List Expr} {scope : Scope} {own : List (Str × Nat)} {gm : XG} {gt : TG} {c : XT} {me m : XE} (hm : ∀ z H Q, tM X.K m z H Q → tF X.K (xLcK n gm c me (own.map (·.2))) z H Q) (hN : X.N.Nodup) (hn : X.N[n]? = some t) (ok : blkC X.N X.env.scope scope own = true) (tk : TgOk X.K (own.map (·.2)) gt gm)
    (hg : ∀ (s : Shared) (H : Hp) (C : Addr) (cl : List (Str × Addr)) (fp : List Addr), PG (X.blk s H scope (compEnvC scope cl C X.env) fp) tg gt)
    (ht : ∀ (s : Shared) (H : Hp) (C : Addr) (cl : List (Str × Addr)) (fp : List Addr), MTs (X.blk s H scope (compEnvC scope cl C X.env) fp) ifs c)
    (he : ∀ (s : Shared) (H : Hp) (C : Addr) (cl : List (Str × Addr)) (fp : List Addr), ME (X.blk s H scope (compEnvC scope cl C X.env) fp) elt me)
    (hsw : swapsWith (.ListComp elt [⟨tg, .Call (.Attribute (.Name t p1) "keys" apos) [] [] cpos, ifs, 0⟩] scope pos) (some (.Name y py)) spos.line X.env = pure true) (hy : X.N[j]? = some y := by rfl) (hyl : X.env.scope.names.lookup y = some .local := by rfl)
    (hv : Vis X.env.scope t := by first | exact Or.inl rfl | exact Or.inr (Or.inl rfl) | exact Or.inr (Or.inr rfl)) (hd : (t == ("__debug__" : Str)) = false := by decide +kernel) (hcd : (t == ("__classdict__" : Str)) = false := by decide +kernel)
    (hs : ∀ x, foldedSetIterable (.Call (.Attribute (.Name t p1) "keys" apos) [] [] cpos) X.env x = pure x := by intro _; rfl) (hc : X.calm = true := by rfl)
    (hbase : attributeBase (.Name t p1) "keys" X.env (eval (.Name t p1) X.env) = eval (.Name t p1) X.env := by rfl) (hline : (apos.endLine == cpos.line) = true := by rfl) :
    MS X (.Assign [.Name y py] (.ListComp elt [⟨tg, .Call (.Attribute (.Name t p1) "keys" apos) [] [] cpos, ifs, 0⟩] scope pos) spos) (sSet j m) := by
  have base : PS X (.Assign [.Name y py] (.ListComp elt [⟨tg, .Call (.Attribute (.Name t p1) "keys" apos) [] [] cpos, ifs, 0⟩] scope pos) spos) (tAsg (tLc (iKeysM (tVar n)) gt (tT X.K c) (tM X.K me) (own.map (·.2))) (gName j)) := ps_setLc hc hN hy hyl hsw (pi_keysM (apos := apos) (cpos := cpos) (pe_var (pos := p1) hn hv hd hcd) hbase hline) (blkOk_by ok) hg ht he hs
  refine PS.wk (PS.or2 base (ps_lock base)) fun D z H ⟨r, w, s, h, f, s', h', R, S, e, C⟩ => ?_
  unfold sSet sAsg at e
  cases e1 : m s h with
  | none => simp [e1] at e
  | some p1 =>
    obtain ⟨v, h1⟩ := p1
    simp only [e1, gNm, Option.some.injEq, Prod.mk.injEq] at e
    obtain ⟨rfl, rfl, rfl⟩ := e
    exact lcK_wk tk z H _ (hm z H (fun u H1 => D.nx (z.set j (some u)) H1) ⟨r, w, s, h, v, h1, R, S, e1, fun r1 u H1 F1 R1 V1 => C r1 _ H1 F1 R1 ((S.fwd F1).set j V1)⟩)
theorem tF_boxK {K : PySem.W.Frag} {m : XE} : True := trivial
/-! ### tuple(d.keys()), t[::-1] -/
end
end Ew
end

section
set_option Elab.async false
set_option linter.all false
set_option maxRecDepth 100000
set_option maxHeartbeats 4000000
/-! EwL: t[::-1], enumerate(t), tuple(d.keys()). -/
namespace Ew
open PySem PySem.Spec PyProof.Rows L2 HT
variable [Tabs]
section
variable {prog : Program} {w : World} {A : Around} {E : Value → Shared → Prop} {s : Shared}
theorem back_places (n : Nat) : Builtin.Slice.slicePlaces ((n : Int) - 1) (-1) (-1) = n := by
  unfold Builtin.Slice.slicePlaces
  rw [if_neg (show ¬ ((-1 : Int) > 0) by decide)]
  by_cases h : (n : Int) - 1 > -1
  · rw [if_pos h]
    have e : -(-1 : Int) = 1 := rfl
    rw [e, Int.ediv_one]
    omega
  · rw [if_neg h]; omega
theorem back_applied {sl : Addr} {vl vu vs : Value} {n : Nat} {Q : Int × Int × Nat → Shared → Prop} (hs : s.heap.IsSliceOf sl vl vu vs) (pl : IsPart vl none) (pu : IsPart vu none) (ps : IsPart vs (some (-1)))
    (h : Q ((n : Int) - 1, -1, n) s) : wpAny (model prog w) A (Builtin.Slice.sliceApplied (.ref sl) (pure (n : Int))) Q E s := by
  obtain ⟨os, k1, k2, k3⟩ := id hs
  unfold Builtin.Slice.sliceApplied Builtin.Slice.sliceFields
  refine wpAny_bind (wpAny_bind (wpAny_field k1 k3 (x := vl) rfl (wpAny_bind (wpAny_field k1 k3 (x := vu) rfl (wpAny_bind (wpAny_field k1 k3 (x := vs) rfl (wpAny_pure ?_)))))))
  refine wpAny_bind (slicePart_ ps ?_)
  show wpAny _ _ (if ((-1 : Int) == 0) = true then _ else _) _ _ s
  rw [if_neg (by decide)]
  refine wpAny_bind (slicePart_ pl (wpAny_bind (slicePart_ pu (wpAny_bind (wpAny_pure ?_)))))
  have e : Builtin.Slice.sliceAdjust none none (-1) (n : Int) = ((n : Int) - 1, -1) := rfl
  show wpAny _ _ (match Builtin.Slice.sliceAdjust none none (-1) (n : Int) with | (lo, hi) => pure (lo, (-1 : Int), Builtin.Slice.slicePlaces lo hi (-1))) _ _ s
  rw [e]
  show wpAny _ _ (pure ((n : Int) - 1, (-1 : Int), Builtin.Slice.slicePlaces ((n : Int) - 1) (-1) (-1))) _ _ s
  rw [back_places]
  exact wpAny_pure h
theorem back_pick (xs : Array Value) : ((List.range xs.size).filterMap fun (m : Nat) => xs[((xs.size : Int) - 1 + (m : Int) * (-1)).toNat]?).toArray = xs.toList.reverse.toArray := by
  congr 1
  apply List.ext_getElem?
  intro j
  have key : ∀ n, n ≤ xs.size → ((List.range n).filterMap fun (m : Nat) => xs[((xs.size : Int) - 1 + (m : Int) * (-1)).toNat]?) = (xs.toList.reverse).take n := by
    intro n
    induction n with
    | zero => intro _; simp
    | succ n ih =>
      intro hn
      have e1 : ((xs.size : Int) - 1 + (n : Int) * (-1)).toNat = xs.size - 1 - n := by omega
      have hl : n < xs.toList.reverse.length := by simp; omega
      rw [List.range_succ, List.filterMap_append, ih (by omega), List.take_add_one, List.getElem?_eq_getElem hl]
      have e2 : xs[xs.size - 1 - n]? = some (xs.toList.reverse[n]) := by
        rw [List.getElem_reverse, Array.getElem?_eq_getElem (by omega)]
        simp
      simp only [List.filterMap_cons, e1, e2, List.filterMap_nil, Option.toList]
  rw [key xs.size (Nat.le_refl _), List.take_of_length_le (by simp)]
/-- t[::-1]: a new tuple; t itself where one item or none -/
theorem back_tuple {t sl : Addr} {items : Array Value} {vl vu vs : Value} {Q : Value → Shared → Prop} (ht : IsTup s.heap t items) (hs : s.heap.IsSliceOf sl vl vu vs) (pl : IsPart vl none) (pu : IsPart vu none) (ps : IsPart vs (some (-1)))
    (h : Q (.ref s.heap.objs.size) { s with heap := s.heap.push { cls := .type "tuple", data := .seq items.toList.reverse.toArray } }) (hz : items.size ≤ sizeLine) : wpAny (model prog w) A (getItem (.ref t) (.ref sl)) Q E s := by
  obtain ⟨os, k1, k2, k3⟩ := id hs
  have hT : s.TypeIs (.ref sl) "slice" := ⟨os, k1, k2⟩
  unfold getItem
  try with_reducible refine wpAny_holding ?_
  first | refine wpAny_bind (wpAny_pure ?_) | skip
  refine wpAny_bind (wpAny_sequenceKey ht.typeIs (by decide) ?_)
  refine wpAny_bind (wpAny_callSpecial?_slot (name := Str.ofString "__getitem__") ht.typeIs slot_tuple_getitem (wpAny_call_entry slot_tuple_getitem ht.typeIs entry_tuple_getitem ?_ (args_tuple_getitem _ _)))
  show wpAny _ _ (Builtin.Tuple.tupleItemsOf (.ref t) >>= _) _ _ s
  refine wpAny_bind (tupleItemsOf_ ht (wpAny_bind (wpAny_typeOf hT ?_)))
  rw [if_pos (by decide)]
  refine wpAny_bind (back_applied hs pl pu ps ?_)
  have hno : ¬ (((((items.size : Nat) : Int) - 1) == 0 && (-1 : Int) == 1 && items.size == items.size) = true) := by simp
  show wpAny _ _ (if ((((items.size : Nat) : Int) - 1) == 0 && (-1 : Int) == 1 && items.size == items.size) = true then _ else _) _ _ s
  rw [if_neg hno, back_pick]
  have hk : sizeOk (.seq items.toList.reverse.toArray) := by
    show items.toList.reverse.toArray.size ≤ sizeLine
    simpa using hz
  first
    | exact wpAny_bind (m := Builtin.Tuple.tupleExact _) (wpAny_newObj_type (wpAny_pure ⟨_, rfl, wpAny_pure h⟩) hk)
    | exact wpAny_bind (m := Builtin.Tuple.tupleExact _) (wpAny_newObj_type (wpAny_bind (wpAny_pure (wpAny_pure ⟨_, rfl, wpAny_pure h⟩))) hk)
    | exact wpAny_bind (wpAny_bind (m := Builtin.Tuple.tupleExact _) (wpAny_newObj_type (wpAny_pure (wpAny_pure ⟨_, rfl, wpAny_pure h⟩)) hk))
    | exact wpAny_bind (wpAny_bind (m := Builtin.Tuple.tupleExact _) (wpAny_newObj_type (wpAny_pure ⟨_, rfl, wpAny_pure h⟩) hk))
end
section
variable {K : PySem.W.Frag} {X : Cx} {e a b c o i : Expr} {m ma mb mc mo mi : XE} {pos p q : Pos} {es : List Expr} {mas : XA}
theorem VRs.reverse {r w : List Addr} {H : Hp} {xs : List MV} {us : List V} (h : VRs K r w H xs us) : VRs K r w H xs.reverse us.reverse := by
  induction xs generalizing us with
  | nil => simp only [VRs] at h; subst h; simp [VRs]
  | cons x xs ih =>
    simp only [VRs] at h
    obtain ⟨u, t, rfl, q1, q2⟩ := h
    rw [List.reverse_cons, List.reverse_cons]
    exact VRs.append (ih q2) (VRs.one q1)
theorem pe_backT {te : TE} {k : Nat} {p1 p2 p3 : Pos} (he : PE X e te) : PE X (.Subscript e (.Slice none none (some (.UnaryOp .USub (.Constant (.int 1) k p1) p2)) p3) pos)
    (fun σ H Q => te σ H fun x H1 => ∃ a xs, x = .ref a ∧ SqT X.K H1 a xs ∧ ∀ p, H1 p = none → Q (.ref p) (upd H1 p (.tup xs.reverse))) := by
  refine ⟨fun pins s σ H Q I h => Subscript_ (thn (he.run pins s σ H _ I h) fun v s1 ⟨x, H1, I1, r1, a, xs, ex, hx, q⟩ => ?_)⟩
  subst ex
  cases r1
  have hst : PO X (some (.UnaryOp .USub (.Constant (.int 1) k p1) p2)) (tPart (tUn (rU fun i => .int (-i)) (tC (.int 1)))) := po_some (pe_un un_neg pe_int)
  refine wpAny_Slice (thn (po_none.run pins s1 σ H1 (fun o H2 => o = none ∧ H2 = H1) I1 ⟨rfl, rfl⟩) fun vl s2 ⟨l, H2, I2, pl, el, e2⟩ => ?_)
  cases el; cases e2
  refine thn (po_none.run pins s2 σ H1 (fun o H3 => o = none ∧ H3 = H1) I2 ⟨rfl, rfl⟩) fun vu s3 ⟨u, H3, I3, pu, eu, e3⟩ => ?_
  cases eu; cases e3
  refine thn (hst.run pins s3 σ H1 (fun o H4 => o = some (-1) ∧ H4 = H1) I3 ⟨1, rfl, -1, rfl, rfl, rfl⟩) fun vs s4 ⟨o, H4, I4, ps, eo, e4⟩ => ?_
  cases eo; cases e4
  have I5 : Inv X pins σ H1 { s4 with heap := s4.heap.push { cls := .type "slice", data := .fields #[vl, vu, vs] } } := I4.kept (t' := s4.toks) fun b ob q => Heap.get?_push_of_some _ q
  obtain ⟨its, r, ht, hz⟩ := I5.tuple hx
  have hlen := r.length
  show wpAny (model X.prog X.w) X.A (subscriptTail e (.Slice none none (some (.UnaryOp .USub (.Constant (.int 1) k p1) p2)) p3) (.ref a) (.ref s4.heap.objs.size)) (EP X pins σ Q) X.xe { s4 with heap := s4.heap.push { cls := .type "slice", data := .fields #[vl, vu, vs] } }
  refine tail_any (ops := [.ref a, .ref s4.heap.objs.size]) ht.typeIs slot_tuple_getitem.lookup ?_ (by with_unfolding_all rfl)
  refine back_tuple ht (Heap.IsSliceOf.new _ vl vu vs) pl pu ps ?_ (by rw [List.size_toArray]; omega)
  refine ⟨.ref _, _, I5.laid (t' := s4.toks) (o := .tup xs.reverse) (fun b ob q => Heap.get?_push_of_some _ q) (Nat.le_refl _) ?_, rfl, q _ (I5.hok.fresh (Nat.le_refl _))⟩
  exact ⟨by rw [List.length_reverse]; exact hz, _, r.reverse, IsTup.new _ _⟩
theorem me_revT {k : Nat} {p1 p2 p3 : Pos} (he : ME X e m) : ME X (.Subscript e (.Slice none none (some (.UnaryOp .USub (.Constant (.int 1) k p1) p2)) p3) pos) (xUn opRevT m) := PE.wk (pe_backT he) fun z H Q ⟨r, w, s, h, v, h', R, S, e, C⟩ => by
  obtain ⟨x, e1, e2⟩ := xUn_at e
  refine ⟨r, w, s, h, x, h', R, S, e1, fun r1 u1 H1 F1 R1 V1 => ?_⟩
  cases x <;> simp only [opRevT, reduceCtorEq, Option.some.injEq] at e2
  subst e2
  simp only [VR] at V1
  obtain ⟨a, us, rfl, t, q⟩ := V1
  exact ⟨a, us, rfl, t.sq, fun p hp => (C.fwd F1 R1).tup R1 hp (VRs.reverse q)⟩
end
/-! ### enumerate(t) -/
theorem enum_one {v : Value} {o : Obj} {G : Heap → Prop} (B : Begins v o G) :
    Meets (Builtin.«enumerate.__new__» ⟨[.type "enumerate", v], []⟩) (fun _ R s => G s.heap ∧ R (.ok (.ret (.ref (s.heap.push o).objs.size))) { s with heap := (s.heap.push o).push { cls := .type "enumerate", data := .fields #[.none, .bool false, .ref s.heap.objs.size, rawInt 0, .none, .none] } }) :=
  .of_wp fun prog w A R s h => by
    obtain ⟨hp, g, d, tk, os⟩ := s; obtain ⟨h1, h⟩ := h
    have hsub := sub_enumerate
    have q1 : ∀ {A' : Around} {E : Value → Shared → Prop} {Q : Value → Shared → Prop}, Q (.ref hp.objs.size) ⟨hp.push o, g, d, tk, os⟩ → wpAny (model prog w) A' (pyIter v) Q E ⟨hp, g, d, tk, os⟩ := fun q => B.iter prog w _ _ ⟨hp, g, d, tk, os⟩ _ h1 q
    wp_walk using q1
    refine wpAny_stack_any fun st => wpAny_pure ?_
    split
    · rename_i c _ _ _ _ _
      cases (c == Value.type "enumerate") <;> (wp_walk using q1; exact ⟨_, rfl, h⟩)
    · wp_walk using q1
      exact ⟨_, rfl, h⟩
section
variable {prog : Program} {w : World} {A : Around} {E : Value → Shared → Prop} {s : Shared}
theorem enum_call {v : Value} {o : Obj} {G : Heap → Prop} {Q : Value → Shared → Prop} (B : Begins v o G) (h1 : G s.heap)
    (h : ∀ h', IsEnum h' (s.heap.objs.size + 1) s.heap.objs.size 0 .none → h'.get? s.heap.objs.size = some o → (∀ b o, s.heap.get? b = some o → h'.get? b = some o) → Q (.ref (s.heap.objs.size + 1)) { s with heap := h' }) : wpAny (model prog w) A (call (.type "enumerate") [v]) Q E s := by
  refine callType_new F.called_enumerate (by decide) (F.typeCall_enumerate_1 _) (F.newCall_enumerate_1 _) (fun obj => F.args_object_init_2 obj _) F.entry_enumerate_new (enum_one B) ⟨h1, ?_⟩
  have hz : (s.heap.push o).objs.size = s.heap.objs.size + 1 := Heap.size_push ..
  have he := Heap.get?_push_size (s.heap.push o) (o := { cls := .type "enumerate", data := .fields #[.none, .bool false, .ref s.heap.objs.size, rawInt 0, .none, .none] }) rfl
  show _ ∧ _
  rw [hz] at he ⊢
  exact ⟨⟨_, he, rfl⟩, h _ he (Heap.get?_push_of_some _ (Heap.get?_push_size _ B.free)) fun b o x => Heap.get?_push_of_some _ (Heap.get?_push_of_some _ x)⟩
end
/-- the tuple at a, each item with its number in a new pair -/
def ItEt (K : PySem.W.Frag) (a : Addr) : It :=
  ⟨fun i H => ∃ (xs : List V) (x : V), SqT K H a xs ∧ xs[i]? = some x, fun i H v H' => ∃ T x, v = .ref T ∧ H T = none ∧ H' = upd H T (.tup [.int (i : Nat), x]) ∧ ∀ xs, SqT K H a xs → xs[i]? = some x, fun i H => ∃ xs : List V, SqT K H a xs ∧ xs.length = i⟩
theorem apart_enum {P : Program} {w : World} {h : Heap} {e it a : Addr} {i : Nat} {k : Int} {old : Value} {items : Array Value} (he : IsEnum h e it k old) (ht : h.IsTupleIter it a i) (hp : IsTup h a items) : e ≠ a ∧ a ≠ it := by
  obtain ⟨o, g1, g2, _⟩ := hp
  obtain ⟨o2, g3, g4, _⟩ := ht
  refine ⟨fun z => ?_, fun z => ?_⟩
  · have g5 : h.get? e = some _ := he
    rw [z, g1] at g5
    cases g5
    exact absurd (show Value.type "enumerate" = Value.type "tuple" from g2) (by decide)
  · rw [z, g3] at g1
    cases g1
    rw [g4] at g2
    exact absurd (show Value.type "tuple_iterator" = Value.type "tuple" from g2) (by decide)
theorem turn_enumT {P : Program} {w : World} {K : PySem.W.Frag} {elts : List Expr} {kk : Nat} {tpos : Pos} (a e it : Addr) :
    Turn P w K (.Tuple elts kk tpos) (ItEt K a) [e, it] e (fun i h => (∃ old, IsEnum h e it ((i : Nat) : Int) old) ∧ h.IsTupleIter it a i ∧ e ≠ it) where
  mem := by simp
  obj := fun i h st b hb => by
    obtain ⟨⟨old, he⟩, ⟨o, ho, hc, hd⟩, _⟩ := st
    rcases (by simpa using hb : b = e ∨ b = it) with z | z <;> rw [z]
    · exact ⟨_, he, fun v q => nomatch q⟩
    · exact ⟨o, ho, fun v q => by rw [hd] at q; cases q⟩
  keep := fun i h h' st k => let ⟨⟨old, he⟩, hi, hne⟩ := st; ⟨⟨old, k e (by simp) _ he⟩, hi.at fun o q => k it (by simp) o q, hne⟩
  item := by
    intro X hP hw hK hc i pins s σ H E I hf st hg
    subst hP hw hK
    obtain ⟨⟨old, he⟩, hit, hne⟩ := st
    obtain ⟨xs, x, hq, hx⟩ := hg
    obtain ⟨its, rv, p, hz⟩ := I.tuple hq
    obtain ⟨u, hu, ru⟩ := rv.get hx
    obtain ⟨ea, ai⟩ := apart_enum (P := X.prog) (w := X.w) he hit p
    have hel : e < s.heap.objs.size := Heap.lt_size he
    have hil : it < s.heap.objs.size := by obtain ⟨_, q, _⟩ := hit; exact Heap.lt_size q
    have hlt : i < its.toArray.size := by simpa using (List.getElem?_eq_some_iff.mp hu).1
    refine wpAny_pyNext_enum_itemD (Draws.tuple (A := X.A.in1) (I.ok.hd hc) it a ai its.toArray) he ⟨hit, p⟩ hlt hne (by simp [hne, ea]) fun u' h' tk hx' ho st' hT hsz hk => ?_
    have eu : u' = u := by
      have q1 : its[i]? = some u' := by simpa using hx'
      rw [hu] at q1
      exact (Option.some.inj q1).symm
    subst eu
    refine ⟨_, rfl, wpAny_letOwnedTupleGo_enum (s := { s with heap := h', toks := tk + 1 }) ho fun h'' he' sb => ?_⟩
    have hT2 : h''.get? s.heap.objs.size = some { cls := .type "tuple", data := .seq #[.int i tk, u'] } := (sb.2 _ (Nat.ne_of_gt hel)).trans hT
    have new : ObjOk X.prog X.w (upd H s.heap.objs.size (.tup [.int (i : Nat), x])) h'' s.heap.objs.size (.tup [.int (i : Nat), x]) := ⟨by show 2 ≤ sizeLine; decide, [.int i tk, u'], .cons ⟨_, rfl⟩ (.cons ru .nil), ⟨_, hT2, rfl, _, rfl⟩⟩
    have I1 : Inv X pins σ (upd H s.heap.objs.size (.tup [.int (i : Nat), x])) { s with heap := h'', toks := tk + 1 } :=
      I.turnedNew (ch := [e, it]) (fun b ob hb q => (sb.2 b (fun z => hb (by simp [z]))).trans (hk b ob (fun z => hb (by simp [z])) (fun z => hb (by simp [z])) q)) hf (Nat.le_refl _) new
    refine ⟨.ref s.heap.objs.size, _, I1, rfl, ⟨_, x, rfl, I.hok.fresh (Nat.le_refl _), rfl, fun ys hy => by rw [I.tuple_inj hy hq]; exact hx⟩, ⟨⟨u', ?_⟩, st'.1.at fun o q => (sb.2 it (Ne.symm hne)).trans q, hne⟩, fun b hb => ?_⟩
    · have e1 : ((i + 1 : Nat) : Int) = (i : Int) + 1 := by omega
      rw [e1]; exact he'
    · have hb' : b < s.heap.objs.size := by
        rcases (by simpa using hb : b = e ∨ b = it) with z | z <;> rw [z] <;> assumption
      rw [upd_ne (Nat.ne_of_lt hb')]
      exact (hf b hb).1
  done := by
    intro X hP hw hK hc i pins s σ H E I hf st hg
    subst hP hw hK
    obtain ⟨⟨old, he⟩, hit, hne⟩ := st
    obtain ⟨xs, hq, hx⟩ := hg
    obtain ⟨its, rv, p, hz⟩ := I.tuple hq
    obtain ⟨f0, f1, f2, f3, f4, f5⟩ := hf it (by simp)
    obtain ⟨ea, ai⟩ := apart_enum (P := X.prog) (w := X.w) he hit p
    have hl : its.toArray.size = i := by rw [List.size_toArray, ← rv.length]; exact hx
    exact wpAny_pyNext_enum_endD (Draws.tuple (A := X.A.in1) (I.ok.hd hc) it a ai its.toArray) he ⟨by rw [hl]; exact hit, p⟩ fun h' eb => ⟨rfl, I.turned (t' := s.toks) (fun b o hb q => eb b o hb q) f0 f1 f3 f4 f5⟩
  self := fun A i s Q E st h => let ⟨⟨_, he⟩, _⟩ := st; wpAny_pyIter_enum he h
theorem pi_enumT {X : Cx} {e : Expr} {ta : TA} {p pos tpos : Pos} {elts : List Expr} {kk : Nat} (hg : Gl X "enumerate") (hm : X.mg "enumerate" = none) (ha : PA X [e] ta) (hs : starEach [e] X.env = [(false, eval e X.env)] := by rfl) :
    PI X (.Tuple elts kk tpos) (.Call (.Name "enumerate" p) [e] [] pos) (fun σ H R => ta σ H fun vs H1 => ∃ a xs, vs = [.ref a] ∧ SqT X.K H1 a xs ∧ R (ItEt X.K a) H1) := by
  refine ⟨fun pins s σ H R I h => Call_ (ld_blt I hg hm boot_enumerate (PyProof.Rows.callWith_type1 (thn (ha.run pos pins s σ H _ I h) fun us s1 ⟨vs, H1, I1, r1, a, xs, ex, hq, q⟩ => ?_) hs rfl))⟩
  subst ex
  obtain ⟨u, rfl, r⟩ := vals1 r1
  cases r
  obtain ⟨its, rv, p', hz⟩ := I1.tuple hq
  refine enum_call (begins_tuple a its.toArray) p' fun h' he hit hk => wpAny_pyIter_enum he ?_
  have I2 : Inv X pins σ H1 { s1 with heap := h' } := I1.kept (t' := s1.toks) hk
  refine ⟨s1.heap.objs.size + 1, [s1.heap.objs.size + 1, s1.heap.objs.size], _, _, H1, rfl, I2, turn_enumT a (s1.heap.objs.size + 1) s1.heap.objs.size, ⟨⟨.none, he⟩, ⟨_, hit, rfl, rfl⟩, Nat.succ_ne_self _⟩, fun b hb => ?_, q⟩
  have hle : s1.heap.objs.size ≤ b := by
    rcases (by simpa using hb : b = s1.heap.objs.size + 1 ∨ b = s1.heap.objs.size) with z | z <;> rw [z]
    · exact Nat.le_add_right _ _
    · exact Nat.le_refl _
  exact I1.fpOk hle (I1.hok.fresh hle)
theorem enumM_at : ∀ (xs : List MV) (k i : Nat), (enumM k xs)[i]? = xs[i]?.map fun x => .tup [.int ((k + i : Nat) : Int), x]
  | [], k, i => by simp [enumM]
  | x :: xs, k, 0 => by simp [enumM]
  | x :: xs, k, i + 1 => by
    simp only [enumM, List.getElem?_cons_succ, enumM_at xs (k + 1) i]
    rw [show k + 1 + i = k + (i + 1) by omega]
theorem enumM_len : ∀ (xs : List MV) (k : Nat), (enumM k xs).length = xs.length
  | [], k => rfl
  | x :: xs, k => by simp [enumM, enumM_len xs (k + 1)]
section
variable {K : PySem.W.Frag} {X : Cx} {e : Expr} {m : XE} {pos p tpos : Pos}
theorem walks_enumT (K : PySem.W.Frag) {r w : List Addr} {H : Hp} {h : MH} {a : Addr} {xs : List MV} (V : VR K r w H (.tup xs) (.ref a)) : Walks K (ItEt K a) (enumM 0 xs) r w H := by
  have get : ∀ r1 w1 H1 h1, Stp r w H r1 w1 H1 → Rel K r1 w1 h1 H1 → ∃ us, SqT K H1 a us ∧ VRs K r1 w1 H1 xs us := fun r1 w1 H1 h1 F R1 => by
    have V1 := VR.map F _ _ V
    simp only [VR] at V1
    obtain ⟨p, us, ep, t, q⟩ := V1
    cases ep
    exact ⟨us, t.sq, q⟩
  refine ⟨fun i r1 w1 H1 h1 _ F R1 hi => ?_, fun i r1 w1 H1 h1 _ F R1 hi => ?_⟩
  · obtain ⟨us, sq, q⟩ := get r1 w1 H1 h1 F R1
    rw [enumM_len] at hi
    have e1 : xs[i]? = some xs[i] := List.getElem?_eq_getElem hi
    obtain ⟨u, q1, q2⟩ := VRs.get q e1
    refine ⟨⟨us, u, sq, q1⟩, fun x H2 ⟨T, y, ex, hT, eH, hx⟩ => ?_⟩
    subst eH ex
    have := hx us sq
    rw [q1] at this
    cases this
    refine ⟨Fwd.new r1 hT, R1.new hT, _, by rw [enumM_at, e1]; rfl, VR.newTup R1 hT ?_⟩
    rw [Nat.zero_add]
    simp only [VRs, VR]
    exact ⟨_, _, rfl, rfl, u, [], rfl, q2, rfl⟩
  · obtain ⟨us, sq, q⟩ := get r1 w1 H1 h1 F R1
    exact ⟨us, sq, by rw [← VRs.length q, ← hi, enumM_len]⟩
theorem mi_enumT {elts : List Expr} {kk : Nat} (hm : X.mg "enumerate" = none) (he : ME X e m) (hg : Gl X "enumerate" := by rfl) (hs : starEach [e] X.env = [(false, eval e X.env)] := by rfl) : MII X (.Tuple elts kk tpos) (.Call (.Name "enumerate" p) [e] [] pos) (iEnumT m) :=
  PI.wk (pi_enumT hg hm (pa_cons he pa_nil hs) hs) fun z H Q ⟨r, w, s, h, it, h', R, S, e, C⟩ => by
  unfold iEnumT at e
  split at e
  · rename_i xs h1 e1
    simp only [Option.some.injEq, Prod.mk.injEq] at e
    obtain ⟨rfl, rfl⟩ := e
    refine ⟨r, w, s, h, _, h1, R, S, e1, fun r1 u H1 F1 R1 V1 => ?_⟩
    have V1' := V1
    simp only [VR] at V1'
    obtain ⟨a, us, rfl, t, q⟩ := V1'
    exact ⟨a, us, rfl, t.sq, C r1 _ H1 F1 R1 (walks_enumT X.K (h := h1) V1)⟩
  · cases e
end
/-! ### tuple(d.keys()) -/
section
variable {prog : Program} {w : World} {A : Around} {E : Value → Shared → Prop} {s : Shared} {r d : Addr} {n : Nat} {P : Nat → Value → Prop} {OK : Heap → Prop}
theorem keys_tup_new {Q₁ : Value → Shared → Prop} (S : PySem.W.KdlSrc prog w "dict_keys" r d n P OK) (hh : A.handled = none) (hok : OK s.heap) (hn : n ≤ sizeLine)
    (h : ∀ (h' : Heap) (tk : Nat) (acc : Array Value), (∀ b o, s.heap.get? b = some o → h'.get? b = some o) → ItemsOf P acc n → Q₁ (.ref h'.objs.size) { s with heap := h'.push { cls := .type "tuple", data := .seq acc }, toks := tk }) :
    codeAny (model prog w) A (.call (.builtin "tuple.__new__") ⟨[.type "tuple", .ref r], []⟩) (wants Q₁ E) s := by
  refine codeAny_of_tree ?_
  show wpAny _ A.in1 (do checkBuiltinCall "tuple.__new__" ⟨[.type "tuple", .ref r], []⟩; again (.builtin "tuple.__new__" ⟨[.type "tuple", .ref r], []⟩)) _ _ s
  refine wpAny_bind (wpAny_of_eq (F.newCall_tuple_1 _) (wpAny_pure ⟨plainId_quiet F.plain_tuple_new _, codeAny_builtin F.entry_tuple_new ?_⟩))
  rw [Around.under_plainId F.plain_tuple_new _]
  have h1 := sub_tuple_self
  have h2 := init_tuple_lookup
  have h3 := madeHere_tuple
  have hT : s.TypeIs (.ref r) "dict_keys" := S.type _ hok
  have hh1 : A.in1.handled = none := hh
  wp_walk using wpAny_typeOf hT, PySem.W.kdu_collect (A := A.in1) S hh1 hok hn
  intro h' tk acc hk hacc
  show wpAny _ _ (Builtin.Tuple.tupleExact acc.toList.toArray >>= fun v => ret v) _ _ _
  unfold Builtin.Tuple.tupleExact
  refine wpAny_bind (wpAny_newObj_type ?_ (by show acc.toList.toArray.size ≤ sizeLine; simp only [Array.toArray_toList]; rw [hacc.1]; exact hn))
  refine wpAny_pure ?_
  rw [show acc.toList.toArray = acc by simp]
  exact h h' tk acc hk hacc
theorem keys_tup_call {Q : Value → Shared → Prop} (S : PySem.W.KdlSrc prog w "dict_keys" r d n P OK) (hh : A.handled = none) (hok : OK s.heap) (hn : n ≤ sizeLine)
    (h : ∀ (h' : Heap) (tk : Nat) (acc : Array Value), (∀ b o, s.heap.get? b = some o → h'.get? b = some o) → ItemsOf P acc n → Q (.ref h'.objs.size) { s with heap := h'.push { cls := .type "tuple", data := .seq acc }, toks := tk }) :
    wpAny (model prog w) A (call (.type "tuple") [.ref r]) Q E s := by
  refine callType_codes (Q₁ := fun obj s₁ => s₁.TypeIs obj "tuple" ∧ Q obj s₁) F.called_tuple (F.typeCall_tuple_1 _) F.entry_object_init (keys_tup_new (A := A.in1) S hh hok hn fun h' tk acc hk hacc => ⟨⟨_, Heap.get?_push_size _ rfl, rfl⟩, h h' tk acc hk hacc⟩) fun obj s₁ h₁ => ?_
  exact ⟨h₁.1, F.args_object_init_2 obj _, object_init_meets F.called_tuple.init.lookup F.called_tuple.made (by decide) prog w A.in1 _ s₁ ⟨h₁.1, rfl, h₁.2⟩⟩
end
section
variable {X : Cx} {o : Expr} {mo : XE} {pos p q apos : Pos}
theorem call_tupKeys (hcalm : X.calm = true) : CallR X (.type "tuple") (fun xs H Q => ∃ (v d : Addr) (kvs : List (Key × V)), xs = [.ref v] ∧ H v = some (KeysO d v) ∧ Rd H d (.dK kvs) ∧ ∀ p, H p = none → Q (.ref p) (upd H p (.tup (kvs.map fun kv => kV kv.1)))) := by
  intro pins s σ H xs us Q I r q
  obtain ⟨v, d, kvs, rfl, hv, hd, q⟩ := q
  obtain ⟨u, rfl, rx⟩ := vals1 r
  cases rx
  obtain ⟨z, lo, vs, rel, dd⟩ := dk_rd I.hok hd
  obtain ⟨ep, hat⟩ := dd.dictAt
  have ek : (kvs.map fun kv => kV kv.1) = vs.map fun p => kV p.1 := by
    have e := congrArg (List.map kV) rel.keys
    rw [List.map_map, List.map_map] at e
    exact e
  refine keys_tup_call (PySem.W.kdl_keys (knd := mixKind X.prog X.w) (kvs := vs) (ep := ep)) (I.ok.hd hcalm) ⟨view_of I hv, hat⟩ (by rw [← rel.length]; exact z) fun h' tk acc hk hacc => ?_
  have hvs : Vals (vs.map fun p => kV p.1) acc.toList := keys_at (by rw [Array.length_toList]; exact hacc.1) fun j v e => hacc.2 j v (by rw [← Array.getElem?_toList]; exact e)
  have I1 : Inv X pins σ H { s with heap := h', toks := tk } := I.kept hk
  refine ⟨.ref h'.objs.size, _, I1.laid (t' := tk) (o := .tup (kvs.map fun kv => kV kv.1)) (fun b u e => Heap.get?_push_of_some _ e) (Nat.le_refl _) ⟨by rw [List.length_map]; exact z, acc.toList, by rw [ek]; exact hvs, ⟨_, Heap.get?_push_size _ rfl, rfl, _, by rw [Array.toArray_toList]⟩⟩, rfl, q _ (I1.hok.fresh (Nat.le_refl _))⟩
theorem me_tupKeys (hm : X.mg "tuple" = none) (ho : ME X o mo) (hc : X.calm = true := by rfl) (hg : Gl X "tuple" := by rfl) (hbase : attributeBase o "keys" X.env (eval o X.env) = eval o X.env := by rfl) (hline : (apos.endLine == pos.line) = true := by rfl)
    (he : starEach [.Call (.Attribute o "keys" apos) [] [] pos] X.env = [(false, eval (.Call (.Attribute o "keys" apos) [] [] pos) X.env)] := by rfl) :
    ME X (.Call (.Name "tuple" p) [.Call (.Attribute o "keys" apos) [] [] pos] [] q) (xUn fKeysT mo) :=
  PE.wk (pe_callTy (call_tupKeys hc) hg hm (by decide +kernel) (pa_cons (pe_keysV ho hbase hline) pa_nil he) (by decide +kernel) (by decide +kernel) he) fun z H Q ⟨r, w, s, h, v, h', R, S, e, C⟩ => by
  obtain ⟨x, e1, e2⟩ := xUn_at e
  refine ⟨r, w, s, h, x, h', R, S, e1, fun r1 u1 H1 F1 R1 V1 => ?_⟩
  unfold fKeysT at e2
  cases e3 : dictK h' x with
  | none => rw [e3] at e2; cases e2
  | some kvs =>
    rw [e3] at e2
    simp only [Option.map_some, Option.some.injEq] at e2
    subst e2
    obtain ⟨d, us, rfl, rd, q⟩ := dictK_rd R1 V1 e3
    refine ⟨d, us, rfl, rd, fun v hv => ⟨v, d, us, rfl, upd_same, rd_new (r := []) (w := []) rd hv, fun p hp => ?_⟩⟩
    have R2 : Rel X.K r1 w h' (upd H1 v (KeysO d v)) := R1.new hv
    exact ((C.fwd F1 R1).fwd (Fwd.new r1 hv) R2).tup R2 hp (keys_vrs (VRk.map (Fwd.new r1 hv).stp _ _ q))
end
end Ew
end

section
set_option Elab.async false
set_option linter.all false
set_option maxRecDepth 100000
set_option maxHeartbeats 4000000
/-! EwN: l.extend(t), t a tuple. -/
namespace Ew
open PySem PySem.Spec PyProof.Rows L2 HT
variable [Tabs]
theorem ext_tup (l : Addr) (items : Array Value) (n : Nat) (b : Addr) (items2 : Array Value) (n2 : Nat) (di : Option Addr) (sl : Array (Option Value)) (hs0 : ¬(!items.isEmpty && Builtin.List.listTooLong (items.size + items2.size)) = true) (hs1 : items.size ≤ sizeLine) (hs2 : items.size + items2.size ≤ sizeLine + 1) :
    Meets (Builtin.«list.extend» ⟨[.ref l, .ref b], []⟩) (fun _ R s => s.heap.get? l = some { cls := .type "list", dict := none, data := .seq items n, slots := #[] } ∧ s.heap.get? b = some { cls := .type "tuple", dict := di, data := .seq items2 n2, slots := sl } ∧ R (.ok (.ret Value.none)) { s with heap := s.heap.update l (Obj.mapSeq fun x => x ++ items2), toks := s.toks }) :=
  .of_wp fun prog w A R s h => by
    obtain ⟨hp, g, d, tk, os⟩ := s; obtain ⟨hl, hb, h⟩ := h; have f1 := PySem.AutoSeq1.idx_int; have f2 := PySem.AutoSeq1.sub_tuple_tuple; have f3 := PySem.AutoSeq1.sub_list_list; have f4 := PySem.AutoSeq1.sub_tuple_list; have f5 := PySem.AutoSeq1.sub_list_tuple;
    have hz' : (items ++ items2).size ≤ sizeLine + 1 := by rw [Array.size_append]; exact hs2
    wp_walk using (wpAny_updateSeq hl rfl (hz := hs1) (_hz' := hz')), PySem.AutoSeq1.wpAny_loadPart' hl, PySem.AutoSeq1.wpAny_loadPart' hb; exact ⟨_, rfl, h⟩
section
variable {X : Cx}
def rExtendT (X : Cx) : V → List V → Hp → VK → Prop := fun x vs H Q => ∃ l b xs zs, x = .ref l ∧ vs = [.ref b] ∧ H l = some (.lst xs) ∧ SqT X.K H b zs ∧ xs.length + zs.length ≤ sizeLine ∧ Q .non (upd H l (.lst (xs ++ zs)))
theorem mt_extendT : MtM X "list.extend" (rExtendT X) := by
  intro pins s σ H x vs v us Q I rx rv h
  obtain ⟨l, b, xs, zs, rfl, rfl, hH, hB, hz, q⟩ := h
  cases rx
  obtain ⟨u, rfl, ru⟩ := rv.one
  cases ru
  obtain ⟨z, its, n, r, hl, e⟩ := I.lstM hH
  obtain ⟨its2, r2, ⟨o, g1, g2, n2, g3⟩, z2⟩ := I.tuple hB
  obtain ⟨cls, di, data, sl⟩ := o
  simp only at g2 g3
  subst g2; subst g3
  have hl2 : zs.length = its2.length := r2.length
  have hsz : its.toArray.size + its2.toArray.size ≤ sizeLine := by rw [List.size_toArray, List.size_toArray]; omega
  have hlong : ¬ (!its.toArray.isEmpty && Builtin.List.listTooLong (its.toArray.size + its2.toArray.size)) = true := by
    rw [notLongL hsz, Bool.and_false]
    exact Bool.false_ne_true
  refine call_meets F.slot_list_extend ⟨_, e, rfl⟩ F.entry_list_extend (F.args_list_extend_2 _ _)
    (ext_tup l its.toArray n b its2.toArray n2 di sl hlong (by rw [List.size_toArray]; omega) (by omega)) ⟨e, g1, ?_⟩
  refine ⟨.non, _, I.lset (its' := its ++ its2) hH e (by simp) (r.append r2) ?_, rfl, q⟩
  rw [List.length_append]
  omega
end
section
variable {X : Cx} {o e : Expr} {mo m : XE} {pos : Pos}
theorem me_extendT {apos : Pos} (ho : ME X o mo) (he : ME X e m) (hbase : attributeBase o "extend" X.env (eval o X.env) = eval o X.env := by rfl)
    (hfew : ((backTo pos (starEach [e] X.env)).all (fun x => !x.1) && (backToKw pos (keywordEach [] X.env)).all (fun x => x.1.isSome) && decide ([e].length + ([] : List Keyword).length + (if ([] : List Keyword).isEmpty then 0 else 1) < 30)) = true := by rfl)
    (hline : (apos.endLine == pos.line) = true := by rfl) (hs : starEach (e :: []) X.env = (false, eval e X.env) :: starEach [] X.env := by rfl) (hpl : (backTo pos (starEach [] X.env)).any (·.1) = false := by rfl) :
    ME X (.Call (.Attribute o "extend" apos) [e] [] pos) (xExtendT mo m) := PE.wk (pe_bm PySem.F.plainAttrs_list PySem.F.slot_list_extend PySem.F.type_list_extend mt_extendT ho (pa_cons he pa_nil hs) hbase hfew hline hs hpl) fun z H Q ⟨r, w, s, h, v, h', R, S, e, C⟩ => by
  unfold xExtendT at e
  split at e
  · rename_i n h1 e1
    split at e
    · rename_i hL
      split at e
      · rename_i ys h2 e2
        split at e
        · rename_i xs e3
          split at e
          · rename_i hl
            simp only [Option.some.injEq, Prod.mk.injEq] at e
            obtain ⟨rfl, rfl⟩ := e
            refine ⟨r, w, s, h, _, h1, R, S, e1, fun r1 u1 H1 F1 R1 V1 => ?_⟩
            obtain ⟨a, us0, rfl, hL1⟩ := lst_here R1 V1 hL
            refine ⟨.inl ⟨rfl, _, SqL.of hL1⟩, r1, w, s, h1, _, h2, R1, S.fwd F1, e2, fun r2 u2 H2 F2 R2 V2 => ?_⟩
            obtain ⟨a', us, e4, hn2, ha, q⟩ := ref_at R2 (VR.fwd F2 _ _ V1) e3
            cases e4
            simp only [VR] at V2
            obtain ⟨b, ws, rfl, hb, q2⟩ := V2
            refine ⟨a, b, us, ws, rfl, rfl, ha, hb.sq, ?_, put_lst R2 hn2 (VRs.append q q2) (by simp only [VR]) ((C.fwd F1 R1).fwd F2 R2) (fun _ _ z => by rw [ha] at z; cases z)⟩
            rw [← VRs.length q, ← VRs.length q2, ← szl]; exact hl
          · cases e
        · cases e
      · cases e
    · cases e
  · cases e
end
end Ew
end

section
set_option Elab.async false
set_option linter.all false
set_option maxRecDepth 100000
set_option maxHeartbeats 4000000
/-! EwO: tuple(reversed(t)), t a tuple. -/
namespace Ew
open PySem PySem.Spec PyProof.Rows L2 HT RT
variable [Tabs]
theorem nolen_rt : typeLookup (.type "reversed") "__len__" = pure none := by rw [typeLookup_type, builtinLookup_eq_fast]; kernel_rfl
theorem hint_rt : typeLookup (.type "reversed") "__length_hint__" = pure (some (.builtin "reversed.__length_hint__")) := by rw [typeLookup_type, builtinLookup_eq_fast]; kernel_rfl
theorem slot_rt_hint : Slot "reversed" "__length_hint__" "reversed.__length_hint__" :=
  .of (owner := "reversed") (n := "__length_hint__") (by rw [typeLookup_type, builtinLookup_eq_fast]; kernel_rfl) (by decide +kernel) (by decide +kernel) (by decide +kernel)
    (by first | exact .inl (by decide +kernel) | exact .inr (by decide +kernel)) (by rw [isSubtype_type]; kernel_rfl)
theorem entry_rt_hint : entryFor table "reversed.__length_hint__" = some Builtin.«reversed.__length_hint__» := entryFor_of_tree (by kernel_rfl)
theorem args_rt_hint (a : Value) : argsOk "reversed.__length_hint__" ⟨[a], []⟩ := by
  unfold argsOk; rw [signature?_of (id := "reversed.__length_hint__") (n := ['_', '_', 't', 'n', 'i', 'h', '_', 'h', 't', 'g', 'n', 'e', 'l', '_', '_']) (o := ['d', 'e', 's', 'r', 'e', 'v', 'e', 'r']) (by kernel_rfl) owner_rt]; kernel_rfl
theorem type_rt_hint : typeOf (.builtin "reversed.__length_hint__") = pure (.type "method_descriptor") := by kernel_rfl
theorem walks_rt {prog : Program} {w : World} {A : Around} (hh : A.handled = none) (I l : Addr) (hne : l ≠ I) (items : Array Value) (hz : items.size ≤ sizeLine) :
    PySem.Walks prog w A I [I, l] [I] items.size (fun i v => items[items.size - 1 - i]? = some v) (fun i h => i ≤ items.size ∧ IsRt h I l ((items.size : Int) - 1 - (i : Int)) ∧ IsTup h l items) where
  sub := fun b hb => by simp at hb; simp [hb]
  frame := fun _ _ _ x hk => ⟨x.1, x.2.1.at fun o e => hk I (by simp) o e, let ⟨o, e, c⟩ := x.2.2; ⟨o, hk l (by simp) o e, c⟩⟩
  item := fun i s Q E hi x hQ => by
    have e : (items.size : Int) - 1 - (i : Int) = ((items.size - 1 - i : Nat) : Int) := by omega
    have hit := x.2.1
    rw [e] at hit
    have hx : items[items.size - 1 - i]? = some (items[items.size - 1 - i]'(by omega)) := Array.getElem?_eq_getElem (by omega)
    refine next_rt_item hit x.2.2 hx hz fun h' hit' hs' => ?_
    have e2 : ((items.size - 1 - i : Nat) : Int) - 1 = (items.size : Int) - 1 - ((i + 1 : Nat) : Int) := by omega
    rw [e2] at hit'
    exact hQ _ h' (s.toks + 1) hx ⟨hi, hit', let ⟨o, e, c⟩ := x.2.2; ⟨o, (hs'.2 l hne).trans e, c⟩⟩ fun b o hb eo => hs'.extBut b o (fun h => hb (by simp [h])) eo
  done := fun s Q E x hQ => by
    have e : (items.size : Int) - 1 - (items.size : Int) = -1 := by omega
    have hit := x.2.1
    rw [e] at hit
    exact next_rt_end hh hit fun h' he' => hQ h' s.toks fun b o hb eo => he' b o (fun h => hb (by simp [h])) eo
  self := fun _ _ _ _ x hQ => iter_rt x.2.1 hQ
section
variable {prog : Program} {w : World} {A : Around} {E : Value → Shared → Prop} {s : Shared}
/-- how many are left -/
theorem hint_call {it l : Addr} {items : Array Value} {Q : Value → Shared → Prop} (hit : IsRt s.heap it l ((items.size : Int) - 1)) (hl : IsTup s.heap l items) (hn : items.size ≤ sizeLine)
    (h : ∀ tk tk2, Q (.int items.size tk) { s with toks := tk2 }) : wpAny (model prog w) A (call (.builtin "reversed.__length_hint__") [.ref it]) Q E s := by
  obtain ⟨o, ho, hc, hd⟩ := id hit
  have h63 : (items.size : Int) < 2 ^ 63 := by rw [sizeLine_eq] at hn; omega
  refine wpAny_call_entry slot_rt_hint hit.typeIs entry_rt_hint ?_ (args_rt_hint _)
  unfold Builtin.«reversed.__length_hint__»
  refine wpAny_bind (wpAny_of_eq (a := Value.ref it) rfl ?_)
  try dsimp only
  refine wpAny_bind (wpAny_field ho hd (x := .ref l) rfl ?_)
  try dsimp only
  try rw [if_neg (by decide)]
  refine wpAny_bind (len_tuple hl h63 ?_)
  refine wpAny_bind (wpAny_of_eq (a := some ((items.size : Nat) : Int)) rfl ?_)
  try dsimp only
  refine wpAny_bind (wpAny_field (s := { s with toks := s.toks + 1 + 1 }) ho hd (x := rawInt ((items.size : Int) - 1)) rfl ?_)
  try dsimp only
  show wpAny _ _ (if ((items.size : Nat) : Int) < (items.size : Int) - 1 + 1 then _ else _) _ _ _
  rw [if_neg (show ¬ ((items.size : Nat) : Int) < (items.size : Int) - 1 + 1 by omega)]
  refine wpAny_bind (wpAny_mkInt ?_)
  rw [show (items.size : Int) - 1 + 1 = (items.size : Int) by omega]
  exact wpAny_pure ⟨_, rfl, h _ _⟩
theorem collect_rt {it l : Addr} {items : Array Value} {Q : List Value → Shared → Prop} (hh : A.handled = none) (hit : IsRt s.heap it l ((items.size : Int) - 1)) (hl : IsTup s.heap l items) (hne : l ≠ it) (hn : items.size ≤ sizeLine)
    (hQ : ∀ (h' : Heap) (tk : Nat) (acc : Array Value), (∀ b o, b ≠ it → s.heap.get? b = some o → h'.get? b = some o) → ItemsOf (fun i v => items[items.size - 1 - i]? = some v) acc items.size → Q acc.toList { s with heap := h', toks := tk }) :
    wpAny (model prog w) A (collect (.ref it)) Q E s := by
  have W := (walks_rt (prog := prog) (w := w) (A := A.in1) hh it l hne items hn).toS
  have h63 : (items.size : Int) < 2 ^ 63 := by rw [sizeLine_eq] at hn; omega
  obtain ⟨oi, hoi, _⟩ := id hit
  obtain ⟨ol, hol, _⟩ := id hl
  have hSi : s.heap.objs.size ≠ it := Nat.ne_of_gt (Heap.lt_size hoi)
  have hSl : s.heap.objs.size ≠ l := Nat.ne_of_gt (Heap.lt_size hol)
  have hSf : s.heap.objs.size ∉ [it, l] := by simp only [List.mem_cons, List.not_mem_nil, or_false, not_or]; exact ⟨hSi, hSl⟩
  unfold collect
  refine wpAny_bind (wpAny_runValue (codeAny_builtin F.entry_proto_collect ?_))
  rw [Around.under_plainId F.plain_proto_collect _]
  show wpAny _ A.in1 (newList [] >>= fun l' => again (.builtin "list.__iadd__" ⟨[l', .ref it], []⟩)) _ _ s
  refine wpAny_bind (wpAny_newObj_type ?_)
  refine wpAny_pure ⟨plainId_quiet F.plain_list_iadd _, codeAny_builtin F.entry_list_iadd ?_⟩
  rw [Around.under_plainId F.plain_list_iadd _]
  have hS₁ : (s.heap.push { cls := .type "list", data := .seq ([] : List Value).toArray }).get? s.heap.objs.size = some { cls := .type "list", data := .seq ([] : List Value).toArray } := Heap.get?_push_size _ rfl
  have hit1 : IsRt (s.heap.push { cls := .type "list", data := .seq ([] : List Value).toArray }) it l ((items.size : Int) - 1) := hit.at fun o e => Heap.get?_push_of_some _ e
  have hl1 : IsTup (s.heap.push { cls := .type "list", data := .seq ([] : List Value).toArray }) l items := let ⟨o, e, c⟩ := hl; ⟨o, Heap.get?_push_of_some _ e, c⟩
  have hT : ({ s with heap := s.heap.push { cls := .type "list", data := .seq ([] : List Value).toArray } } : Shared).TypeIs (.ref it) "reversed" := IsRt.typeIs (s := { s with heap := s.heap.push { cls := .type "list", data := .seq ([] : List Value).toArray } }) hit1
  have h1 : Builtin.List.listSameRef (.ref s.heap.objs.size) (.ref it) = false := by simp [Builtin.List.listSameRef, hSi]
  show wpAny _ A.in1 (Builtin.List.listExtendWith (.ref s.heap.objs.size) (.ref it) (.ref s.heap.objs.size)) _ _ _
  unfold Builtin.List.listExtendWith
  refine wpAny_bind (wpAny_typeOf hT ?_)
  rw [if_neg (by rw [h1]; decide)]
  refine wpAny_bind (iter_rt (s := { s with heap := s.heap.push { cls := .type "list", data := .seq ([] : List Value).toArray } }) hit1 ?_)
  refine wpAny_bind (wpAny_holding ?_)
  unfold Builtin.List.listLengthHint
  refine wpAny_bind (wpAny_specialOf hT nolen_rt ?_)
  show wpAny _ A.in1 (specialOf (Value.ref it) (Str.ofString "__length_hint__") >>= _) _ _ _
  refine wpAny_bind (wpAny_specialOf hT hint_rt ?_)
  generalize hid : ("reversed.__length_hint__" : String) = id0
  wp_delta
  rw [show splitId id0 = some ("reversed", "__length_hint__") from by subst hid; decide +kernel]
  subst hid
  refine wpAny_bind (wpAny_isInstance (b := true) hT (by rw [isSubtype_type]; kernel_rfl) ?_)
  rw [if_neg (by decide)]
  try dsimp only
  rw [if_neg (by decide +kernel)]
  refine wpAny_bind (wpAny_rule ?_)
  refine wpAny_bind (wpAny_of_eq (slot_rt_hint.bind (.ref it)) ?_)
  try dsimp only
  refine wpAny_bind ?_
  refine wpAny_attempt ?_
  have hc := @hint_call _ prog w A.in1
  refine hc (s := { s with heap := s.heap.push { cls := .type "list", data := .seq ([] : List Value).toArray } }) (items := items) hit1 hl1 hn ?_
  intro tk tk2
  dsimp only
  have hfits : Builtin.List.listFitsIndex ((items.size : Nat) : Int) = true := by unfold Builtin.List.listFitsIndex; rw [Bool.and_eq_true]; exact ⟨decide_eq_true (by omega), decide_eq_true h63⟩
  refine wpAny_bind ?_
  have ha : asInt? (.int ((items.size : Nat) : Int) tk) = pure (some ((items.size : Nat) : Int)) := rfl
  rw [ha]
  refine wpAny_pure ?_
  dsimp only
  rw [if_neg (by rw [hfits]; decide), if_neg (by omega), if_neg (by rw [Int.toNat_natCast, notLongL hn]; decide)]
  refine wpAny_pure ?_
  have hx : ∀ {h' : Heap} {tk c : Nat} {R : Result → Shared → Prop}, (∀ b o, b ≠ s.heap.objs.size → (s.heap.push { cls := .type "list", data := .seq ([] : List Value).toArray }).get? b = some o → h'.get? b = some o) → h'.get? s.heap.objs.size = some { cls := .type "list", data := .seq ([] : List Value).toArray c } →
      (∀ s' acc' c', s' = { s with heap := s'.heap, toks := s'.toks } → (∀ b o, b ≠ it → s.heap.get? b = some o → s'.heap.get? b = some o) → s'.heap.get? s.heap.objs.size = some { cls := .type "list", dict := none, data := .seq acc' c', slots := #[] } → ItemsOf (fun i v => items[items.size - 1 - i]? = some v) acc' items.size → R (.ok (.ret (.ref s.heap.objs.size))) s') →
      codeAny (model prog w) A (.builtin "list.extend.loop" ⟨[.ref s.heap.objs.size, .ref it, .ref s.heap.objs.size], []⟩) R { s with heap := h', toks := tk } := by
    intro h' tk c R oth hS' hR
    refine codeAny_extend_loopS W hn _ hSf _ items.size 0 _ _ _ rfl (Nat.zero_le _) ⟨Nat.zero_le _, ?_, ?_⟩ hS' (ItemsOf.nil _) fun s' acc' c' hm hS'' hacc => ?_
    · rw [show ((items.size : Nat) : Int) - 1 - ((0 : Nat) : Int) = (items.size : Int) - 1 by omega]
      exact hit1.at fun o e => oth it o (Ne.symm hSi) e
    · obtain ⟨o, e, c⟩ := hl1
      exact ⟨o, oth l o (Ne.symm hSl) e, c⟩
    · refine hR s' acc' c' (by have := Moved.eq_with hm; exact this) (fun b o hb e => hm.heap b o (fun hmem => ?_) (oth b o (Nat.ne_of_lt (Heap.lt_size e)) (Heap.get?_push_of_some _ e))) hS'' hacc
      rcases List.mem_cons.mp hmem with e' | hmem
      · exact absurd (Heap.lt_size e) (by rw [e']; exact Nat.lt_irrefl _)
      · exact hb (List.mem_singleton.mp hmem)
  split
  · refine wpAny_bind (wpAny_rule ?_)
    refine wpAny_bind ?_
    show wpAny _ A.in1 (updateSeq s.heap.objs.size (·.push .none) >>= fun _ => updateSeq s.heap.objs.size (·.pop)) _ _ _
    refine wpAny_bind (wpAny_updateSeq hS₁ rfl ?_ (hz := Nat.zero_le _) (_hz' := Nat.succ_le_succ (Nat.zero_le _)))
    have hS₂ := Heap.get?_update_self (Obj.mapSeq (·.push Value.none)) hS₁ rfl
    refine wpAny_updateSeq hS₂ rfl ?_ (hz := (show (1 : Nat) ≤ sizeLine by rw [sizeLine_eq]; omega)) (_hz' := Nat.zero_le _)
    have hS₃ := Heap.get?_update_self (Obj.mapSeq (·.pop)) hS₂ rfl
    have oth : ∀ b o, b ≠ s.heap.objs.size → (s.heap.push { cls := .type "list", data := .seq ([] : List Value).toArray }).get? b = some o →
        (((s.heap.push { cls := .type "list", data := .seq ([] : List Value).toArray }).update s.heap.objs.size (Obj.mapSeq (·.push Value.none))).update s.heap.objs.size (Obj.mapSeq (·.pop))).get? b = some o :=
      fun b o hb e => (Heap.get?_update_other _ _ (Ne.symm hb)).trans ((Heap.get?_update_other _ _ (Ne.symm hb)).trans e)
    refine wpAny_pure ⟨plainId_quiet F.plain_extend_loop _, hx oth hS₃ fun s' acc' c' k1 k2 hS' hacc => ?_⟩
    show wpAny _ A (load s.heap.objs.size >>= _) _ _ s'
    refine wpAny_bind (wpAny_load hS' ?_)
    refine wpAny_pure ?_
    rw [k1]
    exact hQ s'.heap s'.toks acc' k2 hacc
  · refine wpAny_pure ⟨plainId_quiet F.plain_extend_loop _, hx (fun _ _ _ e => e) hS₁ fun s' acc' c' k1 k2 hS' hacc => ?_⟩
    show wpAny _ A (load s.heap.objs.size >>= _) _ _ s'
    refine wpAny_bind (wpAny_load hS' ?_)
    refine wpAny_pure ?_
    rw [k1]
    exact hQ s'.heap s'.toks acc' k2 hacc
theorem code_tuple_new_rt {it l : Addr} {items : Array Value} {Q₁ : Value → Shared → Prop} (hh : A.handled = none) (hit : IsRt s.heap it l ((items.size : Int) - 1)) (hl : IsTup s.heap l items) (hne : l ≠ it) (hn : items.size ≤ sizeLine)
    (h : ∀ (h' : Heap) (tk : Nat) (acc : Array Value), (∀ b o, b ≠ it → s.heap.get? b = some o → h'.get? b = some o) → ItemsOf (fun i v => items[items.size - 1 - i]? = some v) acc items.size →
      Q₁ (.ref h'.objs.size) { s with heap := h'.push { cls := .type "tuple", data := .seq acc }, toks := tk }) :
    codeAny (model prog w) A (.call (.builtin "tuple.__new__") ⟨[.type "tuple", .ref it], []⟩) (wants Q₁ E) s := by
  refine codeAny_of_tree ?_
  show wpAny _ A.in1 (do checkBuiltinCall "tuple.__new__" ⟨[.type "tuple", .ref it], []⟩; again (.builtin "tuple.__new__" ⟨[.type "tuple", .ref it], []⟩)) _ _ s
  refine wpAny_bind (wpAny_of_eq (F.newCall_tuple_1 _) (wpAny_pure ⟨plainId_quiet F.plain_tuple_new _, codeAny_builtin F.entry_tuple_new ?_⟩))
  rw [Around.under_plainId F.plain_tuple_new _]
  have hsub := sub_tuple_self
  have hinit := init_tuple_lookup
  have hmh := madeHere_tuple
  have hTI : s.TypeIs (.ref it) "reversed" := hit.typeIs
  have hh1 : A.in1.handled = none := hh
  wp_walk using wpAny_typeOf hTI, collect_rt (A := A.in1) hh1 hit hl hne hn
  intro h' tk acc hk hacc
  show wpAny _ _ (Builtin.Tuple.tupleExact acc.toList.toArray >>= fun v => ret v) _ _ _
  unfold Builtin.Tuple.tupleExact
  refine wpAny_bind (wpAny_newObj_type ?_ (by show acc.toList.toArray.size ≤ sizeLine; simp only [Array.toArray_toList]; rw [hacc.1]; exact hn))
  refine wpAny_pure ?_
  have e : acc.toList.toArray = acc := by simp
  rw [e]
  exact h h' tk acc hk hacc
theorem call_tuple_rt {it l : Addr} {items : Array Value} {Q : Value → Shared → Prop} (hh : A.handled = none) (hit : IsRt s.heap it l ((items.size : Int) - 1)) (hl : IsTup s.heap l items) (hne : l ≠ it) (hn : items.size ≤ sizeLine)
    (hQ : ∀ (h' : Heap) (tk : Nat) (acc : Array Value), (∀ b o, b ≠ it → s.heap.get? b = some o → h'.get? b = some o) → ItemsOf (fun i v => items[items.size - 1 - i]? = some v) acc items.size →
      Q (.ref h'.objs.size) { s with heap := h'.push { cls := .type "tuple", data := .seq acc }, toks := tk }) :
    wpAny (model prog w) A (call (.type "tuple") [.ref it]) Q E s := by
  refine callType_codes (Q₁ := fun obj s₁ => s₁.TypeIs obj "tuple" ∧ Q obj s₁) F.called_tuple (F.typeCall_tuple_1 _) F.entry_object_init
    (code_tuple_new_rt (A := A.in1) hh hit hl hne hn fun h' tk acc hk hacc => ⟨⟨_, Heap.get?_push_size _ rfl, rfl⟩, hQ h' tk acc hk hacc⟩) fun obj s₁ h₁ => ?_
  exact ⟨h₁.1, F.args_object_init_2 obj _, object_init_meets F.called_tuple.init.lookup F.called_tuple.made (by decide) prog w A.in1 _ s₁ ⟨h₁.1, rfl, h₁.2⟩⟩
end
section
variable {X : Cx} {e : Expr} {m : XE} {p p2 pos pos2 : Pos}
def tTupRevT (K : PySem.W.Frag) (te : TE) : TE := fun σ H Q => te σ H fun v H1 => ∃ (a : Addr) (xs : List V), v = .ref a ∧ SqT K H1 a xs ∧ ∀ (q : Addr) (o : Obj), o.cls = .type "tuple" → o.dict = none → H1 q = none → Q (.ref q) (upd H1 q (.frz o (.tup xs.reverse)))
theorem pe_tupRevT {te : TE} (hc : X.calm = true) (hg : Gl X "tuple") (hm : X.mg "tuple" = none) (hg2 : Gl X "reversed") (hm2 : X.mg "reversed" = none) (he : PE X e te)
    (hs : starEach [e] X.env = (false, eval e X.env) :: starEach [] X.env := by rfl)
    (hs2 : starEach [.Call (.Name "reversed" p2) [e] [] pos2] X.env = (false, eval (.Call (.Name "reversed" p2) [e] [] pos2) X.env) :: starEach [] X.env := by rfl) :
    PE X (.Call (.Name "tuple" p) [.Call (.Name "reversed" p2) [e] [] pos2] [] pos) (tTupRevT X.K te) := by
  refine ⟨fun pins s σ H Q I h => ?_⟩
  refine Call_ (ld_blt I hg hm boot_tuple (PyProof.Rows.callWith_type1 (args_cons (Call_ (ld_blt I hg2 hm2 PyProof.Rows.boot_reversed (PyProof.Rows.callWith_type1 (args_cons (thn (he.run pins s σ H _ I h) fun u s1 ⟨v, H1, I1, r1, q1⟩ => args_nil ?_) hs) hs rfl))) hs2) hs2 rfl))
  obtain ⟨a, xs, ev, hq, q⟩ := q1
  subst ev
  obtain rfl : u = Value.ref a := r1
  obtain ⟨its, rv, p', hz⟩ := I1.tuple hq
  have hl := rv.length
  have hn63 := line63
  refine call_reversed_tup p' (fun A E Q k => len_tuple p' (by simp only [List.size_toArray] <;> omega) k) (args_nil ?_)
  have k0 : ∀ b o, s1.heap.get? b = some o → (s1.heap.push (rtObj a ((its.toArray.size : Int) - 1))).get? b = some o := fun b o e => Heap.get?_push_of_some _ e
  have I2 : Inv X pins σ H1 { s1 with heap := s1.heap.push (rtObj a ((its.toArray.size : Int) - 1)), toks := s1.toks + 1 + 1 } := I1.kept (t' := s1.toks + 1 + 1) k0
  obtain ⟨f0, f1, f2, f3, f4, f5⟩ := I1.fpOk (H' := H1) (b := s1.heap.objs.size) (Nat.le_refl _) (I1.hok.fresh (Nat.le_refl _))
  obtain ⟨ol, hol, hoc⟩ := id p'
  have hne : a ≠ s1.heap.objs.size := Nat.ne_of_lt (Heap.lt_size hol)
  have hn : its.toArray.size ≤ sizeLine := by rw [List.size_toArray, ← rv.length]; exact hz
  refine call_tuple_rt (s := { s1 with heap := s1.heap.push (rtObj a ((its.toArray.size : Int) - 1)), toks := s1.toks + 1 + 1 }) (I1.ok.hd hc) ⟨_, Heap.get?_push_size _ rfl, rfl, rfl⟩ ⟨ol, k0 _ _ hol, hoc⟩ hne hn fun h' tk acc hk hi => ?_
  have I3 : Inv X pins σ H1 { s1 with heap := h', toks := tk } := I2.turned (t' := tk) (fun b o hb e => hk b o hb e) f0 f1 f3 f4 f5
  refine ⟨.ref h'.objs.size, upd H1 h'.objs.size (.frz { cls := .type "tuple", data := .seq acc } (.tup xs.reverse)), I3.laid (t' := tk) (fun c o e => Heap.get?_push_of_some _ e) (Nat.le_refl _) (show ObjOk X.prog X.w _ _ _ (.frz { cls := .type "tuple", data := .seq acc } (.tup xs.reverse)) from ⟨Heap.get?_push_size _ rfl, by rw [List.length_reverse]; exact hz, acc.toList, vals_rev rv hi, ?_⟩), rfl, q _ _ rfl rfl (I3.hok.fresh (Nat.le_refl _))⟩
  rw [Array.toArray_toList]
  exact IsTup.new _ _
theorem me_tupRevT (hm : X.mg "tuple" = none) (hm2 : X.mg "reversed" = none) (he : ME X e m) (hc : X.calm = true := by rfl) (hg : Gl X "tuple" := by rfl) (hg2 : Gl X "reversed" := by rfl)
    (hs : starEach [e] X.env = (false, eval e X.env) :: starEach [] X.env := by rfl)
    (hs2 : starEach [.Call (.Name "reversed" p2) [e] [] pos2] X.env = (false, eval (.Call (.Name "reversed" p2) [e] [] pos2) X.env) :: starEach [] X.env := by rfl) :
    ME X (.Call (.Name "tuple" p) [.Call (.Name "reversed" p2) [e] [] pos2] [] pos) (xUn opRevR m) := PE.wk (pe_tupRevT hc hg hm hg2 hm2 he hs hs2) fun z H Q ⟨r, w, s, h, v, h', R, S, e, C⟩ => by
  obtain ⟨x, e1, e2⟩ := xUn_at e
  refine ⟨r, w, s, h, x, h', R, S, e1, fun r1 u1 H1 F1 R1 V1 => ?_⟩
  unfold opRevR at e2
  cases e3 : tupV x with
  | none => rw [e3] at e2; cases e2
  | some xs =>
    rw [e3] at e2
    simp only [Option.map_some, Option.some.injEq] at e2
    subst e2
    obtain ⟨a, us, rfl, t, q⟩ := tupV_sq X.K V1 e3
    exact ⟨a, us, rfl, t, fun p o ho hd hp => (C.fwd F1 R1).row ho hd R1 hp (VRs.reverse q)⟩
end
section
variable {X : Cx} {m : XE}
/-- a fresh thing boxed, where a comprehension is assigned -/
theorem tF_box : ∀ z H Q, tM X.K (xBox m) z H Q → tF X.K m z H Q := fun z H Q ⟨r, w, s, h, v, h', R, S, e, C⟩ => by
  unfold xBox at e
  cases e1 : m s h with
  | none => simp [e1] at e
  | some p =>
    obtain ⟨y, h1⟩ := p
    simp only [e1] at e
    refine ⟨r, w, s, h, y, h1, R, S, e1, fun r' p H' F n R' q => ?_⟩
    have np : p ∉ w := R.ninw n
    have F2 : Fwd r H (r' ++ [p]) H' := by
      obtain ⟨⟨ps, rfl, hps⟩, k, fz⟩ := F
      exact ⟨⟨ps ++ [p], by simp, fun x hx => by
        rcases List.mem_append.mp hx with hx | hx
        · exact hps x hx
        · rw [List.mem_singleton.mp hx]; exact n⟩, k, fz⟩
    have V : VR X.K (r' ++ [p]) w H' (.ref h1.length) (.ref p) := by
      simp only [VR]
      exact ⟨p, rfl, by rw [← R'.len]; simp⟩
    cases y <;> simp only [VF] at q <;> simp only [boxM, Option.some.injEq, Prod.mk.injEq, reduceCtorEq] at e
    · obtain ⟨rfl, rfl⟩ := e
      exact C (r' ++ [p]) _ H' F2 (R'.cell np (c := .lst _) q) V
    · obtain ⟨rfl, rfl⟩ := e
      exact C (r' ++ [p]) _ H' F2 (R'.cell np (c := .dK _) q) V
    · obtain ⟨rfl, rfl⟩ := e
      exact C (r' ++ [p]) _ H' F2 (R'.cell np (c := .dT _) q) V
end
/-- the scope of a comprehension within one -/
def relabelS (o sc : Scope) : Scope := relabel o { scope := sc, locals := 0, globals := 0, cells := [] }
end Ew
end

section
set_option Elab.async false
set_option linter.all false
set_option maxRecDepth 100000
set_option maxHeartbeats 4000000
/-! EwM: sum, sorted(set(t)). -/
namespace Ew
open PySem PySem.Spec PyProof.Rows L2
variable [Tabs]
section
variable {K : PySem.W.Frag} {X : Cx} {e a b c o i : Expr} {m ma mb mc mo mi : XE} {pos p q p2 : Pos} {es : List Expr} {mas : XA}
theorem me_sum (hm : X.mg "sum" = none) (ha : MA X (e :: es) mas) (hc : X.calm = true := by rfl) (hg : Gl X "sum" := by rfl) (he : starEach (e :: es) X.env = (false, eval e X.env) :: starEach es X.env := by rfl) (hpl : (backTo pos (starEach es X.env)).any (·.1) = false := by rfl) :
    ME X (.Call (.Name "sum" p) (e :: es) [] pos) (xArgs fSum mas) := me_b (cr_sum hc) (fun r w h H xs v us Q R VA e C => by
  unfold fSum at e
  split at e
  · rename_i v'
    obtain ⟨u, rfl, q⟩ := vrs1 VA
    split at e
    · rename_i ys e1
      cases e2 : intsOf ys with
      | none => rw [e2] at e; cases e
      | some ns =>
        rw [e2] at e
        simp only [Option.map_some, Option.some.injEq] at e
        subst e
        obtain ⟨p, ws, rfl, sq, q2⟩ := list_sq X.K R q e1
        have e3 := ints_of q2 e2
        subst e3
        exact ⟨p, ns, rfl, sq, C.now R (by simp only [VR])⟩
    · cases e
  · cases e) (by decide +kernel) hm ha hg (by decide +kernel) (by decide +kernel) he hpl
theorem once_mem : ∀ (ns : List Int) (k : Int), k ∈ onceI ns ↔ k ∈ ns
  | [], k => by simp [onceI]
  | x :: xs, k => by
    have ih := once_mem xs k
    simp only [onceI]
    split
    · rename_i h
      rw [ih, List.mem_cons]
      exact ⟨.inr, fun z => z.elim (fun q => by rw [q]; exact h) id⟩
    · rw [List.mem_cons, List.mem_cons, ih]
theorem once_nodup : ∀ (ns : List Int), (onceI ns).Nodup
  | [] => List.nodup_nil
  | x :: xs => by
    simp only [onceI]
    split
    · exact once_nodup xs
    · rename_i h
      exact List.nodup_cons.mpr ⟨fun z => h ((once_mem xs x).mp z), once_nodup xs⟩
theorem le_of_lt_pw {l : List Int} (h : l.Pairwise (· < ·)) : l.Pairwise (· ≤ ·) := h.imp fun z => by omega
theorem nodup_of_lt {l : List Int} (h : l.Pairwise (· < ·)) : l.Nodup := h.imp fun z => by omega
theorem once_sorted {ns ys : List Int} (hs : ys.Pairwise (· < ·)) (hm : ∀ k, k ∈ ys ↔ k ∈ ns) : ys = sortI (onceI ns) := by
  have hp : ys.Perm (onceI ns) := (List.perm_ext_iff_of_nodup (nodup_of_lt hs) (once_nodup ns)).mpr fun k => by rw [hm, once_mem]
  exact PySem.W.os_sorted_mergeSort hp (le_of_lt_pw hs)
/-- sorted(set(e)) of a tuple of ints -/
theorem pe_sortSet {ta : TE} (hg : Gl X "sorted") (hm : X.mg "sorted" = none) (hg2 : Gl X "set") (hm2 : X.mg "set" = none) (ha : PE X a ta) (hc : X.calm = true)
    (na : starEach [a] X.env = (false, eval a X.env) :: starEach [] X.env) : PE X (.Call (.Name "sorted" p) [.Call (.Name "set" p2) [a] [] q] [] pos)
      (fun σ H Q => ta σ H fun x H1 => ∃ (l : Addr) (ns : List Int), x = .ref l ∧ SqT X.K H1 l (ns.map V.int) ∧ ns.length < 64 ∧ ∀ p, H1 p = none → Q (.ref p) (upd H1 p (.lst ((sortI (onceI ns)).map V.int)))) := by
  refine ⟨fun pins s σ H Q I h => ?_⟩
  refine Call_ (ld_blt I hg hm boot_sorted (PyProof.Rows.callWith_builtin1 (PyProof.Rows.args_cons (Call_ (ld_blt I hg2 hm2 boot_set (PyProof.Rows.callWith_type1 (PyProof.Rows.args_cons (thn (ha.run pins s σ H _ I h) fun v s1 ⟨x, H1, I1, r1, l, ns, ex, hq, hl, q1⟩ => PyProof.Rows.args_nil ?_) na) na rfl))) rfl) rfl rfl))
  subst ex
  cases r1
  obtain ⟨its, r, pl, hz⟩ := I1.tuple hq
  refine call_set_tupI ns (I1.ok.hd hc) (show s1.heap.IsTuple l its.toArray from pl) (by simpa using r.ints) (by unfold scanBound; omega) fun h' tk c hS hcn hk => ?_
  refine PyProof.Rows.args_nil ?_
  have I2 : Inv X pins σ H1 { s1 with heap := h', toks := tk } := I1.kept hk
  refine sorted_set (s := { s1 with heap := h', toks := tk }) hS (I2.ok.hd hc) (by omega) fun s' p out c2 ys k1 g1 o1 hp hc2 hi hlt hmem hlen => ?_
  have ey : ys = sortI (onceI ns) := once_sorted hlt fun k => by rw [hmem]; simp
  subst ey
  have hz2 : ((sortI (onceI ns)).map V.int).length ≤ sizeLine := by rw [List.length_map, hlen, sizeLine_eq]; omega
  have I3 : Inv X pins σ (upd H1 p (.lst ((sortI (onceI ns)).map V.int))) { ({ s1 with heap := h', toks := tk } : Shared) with heap := s'.heap, gens := s'.gens, drawn := s'.drawn, toks := s'.toks } :=
    I2.call (s := { s1 with heap := h', toks := tk }) (ch := []) (Un.laid k1 hp (I2.hok.fresh hp)) (I2.hok.laid k1 hp ⟨hz2, out.toList, c2, vals_of_ints hi, hc2⟩) (by rw [g1]; exact I2.bare) (fun _ z => nomatch z)
  have es : s' = { ({ s1 with heap := h', toks := tk } : Shared) with heap := s'.heap, gens := s'.gens, drawn := s'.drawn, toks := s'.toks } := by
    cases s'; cases s1; cases o1; rfl
  rw [es]
  exact ⟨.ref p, _, I3, rfl, q1 p (I2.hok.fresh hp)⟩
theorem mf_sortSet (hm : X.mg "sorted" = none) (hm2 : X.mg "set" = none) (ha : ME X a ma) (hg : Gl X "sorted" := by rfl) (hg2 : Gl X "set" := by rfl) (hc : X.calm = true := by rfl) (na : starEach [a] X.env = (false, eval a X.env) :: starEach [] X.env := by rfl) :
    MF X (.Call (.Name "sorted" p) [.Call (.Name "set" p2) [a] [] q] [] pos) (xUn fSortSet ma) := PE.wk (pe_sortSet hg hm hg2 hm2 ha hc na) fun z H Q ⟨r, w, s, h, v, h', R, S, e, C⟩ => by
  obtain ⟨x, e1, e2⟩ := xUn_at e
  refine ⟨r, w, s, h, x, h', R, S, e1, fun r1 u1 H1 F1 R1 V1 => ?_⟩
  cases x <;> simp only [fSortSet, reduceCtorEq] at e2
  rename_i xs
  split at e2
  · rename_i ns e3
    split at e2
    · rename_i hl
      simp only [Option.some.injEq] at e2
      subst e2
      simp only [VR] at V1
      obtain ⟨a, us, rfl, t, q⟩ := V1
      have e5 := ints_of q e3
      subst e5
      exact ⟨a, ns, rfl, t.sq, hl, fun p hp => (C.fwd F1 R1).lst R1 hp (VRs.ints _)⟩
    · cases e2
  · cases e2
end
end Ew
end

section
set_option Elab.async false
set_option linter.all false
set_option maxRecDepth 100000
set_option maxHeartbeats 4000000
/-! EwP: sorted(e, key=lambda x: ..). -/
namespace Ew
open PySem PySem.Spec PyProof.Rows L2 NdefX LamX
variable [Tabs]
/-! ### the lambda's object -/
abbrev lmObj (q : Str) (params : Arguments) (body : Expr) (scope : Scope) (cl : List (Str × Addr)) (pm : Value) (c : Addr) (ct : Value) : Obj := PySem.W.kla_obj "<lambda>" q params body scope cl pm c ct
/-- its words, for the nested functions' context -/
abbrev lmF (q : Str) (params : Arguments) (scope : Scope) (cl : List (Str × Addr)) (c : Addr) : NF := ⟨"<lambda>", q, params, [], scope, cl, c⟩
section
variable {P : Program} {w : World} {K : PySem.W.Frag} {mg : Str → Option Value} {base : Heap} {N ps fr : List Str} {q : Str} {params : Arguments} {body : Expr} {scope : Scope} {cl : List (Str × Addr)} {pm ct : Value} {f c : Addr} {k : Nat}
/-- the lambda called -/
theorem lam_call {A : Around} {outer : List Env} {s : Shared} {H : Hp} {us : List Value} {vs : List V} {ws : List (Option V)} {Q : VK} {E : XK} {t : TE} (S : NScope N ps fr scope) (hb : ∀ us : List Value, us.length = ps.length → bindArgs (PySem.W.kla_fn "<lambda>" q params body scope cl pm (.ref c) ct) ⟨us, []⟩ = pure (ps.zip us))
    (hr : Room (k + 1) A) (e0 : Env0 P w K mg base A outer s H) (ho : s.heap.get? f = some (lmObj q params body scope cl pm c ct)) (hc : s.heap.CodeRec (.ref c) q) (C : CellsAt cl fr ws s.heap H) (r : Vals vs us) (hl : vs.length = ps.length)
    (hbody : PE (ncx CX0 P w K mg base N (lmF q params scope cl c) f A outer s H E) body t) (ht : t (startF N vs ws) H Q) : codeAny (model P w) A (.call (.ref f) ⟨us, []⟩) (CR CX0 outer P w H s Q E) s := by
  have lim : s.heap.NoLimit := e0.mod.nolimit.keeps fun b o e => (e0.bs b o e).1
  refine PySem.W.kla_callFunE hr.depth ho rfl S.co S.gen rfl hc ?_
  rw [hb us (by rw [← r.length]; exact hl)]
  refine wpAny_pure (wpAny_newFunctionEnv S.nocell (fun y hy => S.par y.1 (List.of_mem_zip (show (y.1, y.2) ∈ ps.zip us from hy)).1) (fun h₁ hns hsb => ⟨lim.fresh _ hsb, ?_⟩) S.kind)
  show codeAny _ _ (.expr body (envF (lmF q params scope cl c) f s.heap.objs.size)) _ _
  have kp : ∀ b o, s.heap.get? b = some o → h₁.get? b = some o := fun b o e => hsb.extBut b o (Nat.ne_of_lt (Heap.lt_size e)) (Heap.get?_push_of_some _ e)
  have I := inv_startN (CX := CX0) (N := N) (F := lmF q params scope cl c) (f := f) (tk := s.toks + (ps.zip us).length) (E := E) S hr.hd e0 hl r C hns kp
  refine PySem.W.kla_codeExpr (wpAny_mono (hbody.run [] _ (startF N vs ws) H Q I ht) (fun v s' hq => ?_) fun e s' hq => hq)
  obtain ⟨y, H', J, rv, hq⟩ := hq
  exact ⟨y, H', J.os, J.bare, J.base, J.hok, rv, hq⟩
end
/-! ### the lambda made -/
section
variable {X : Cx} {pins : List (Addr × Obj)} {σ : L2.St} {H : Hp} {s : Shared}
theorem lam_make3 {ps : Array Value} {c P : Addr} {params : Arguments} {body : Expr} {scope : Scope} {pos : Pos} {E : Value → Shared → Prop} {Q : Value → Shared → Prop} (I : Inv X pins σ H s) (TB : TabB X.base X.mg c P) (hcode : X.env.code = .ref c)
    (hP : H P = some (.tbl ps)) (ht : TriplesOk ps.toList) (ha : ∀ (pos : Pos) (cv : Value), codeAmong pos ps.toList = some cv → ∃ c, cv = .ref c ∧ H c = some (CodeO c (X.env.qual ++ "<lambda>"))) (hdef : defaultsOf params X.env = ([], []))
    (hfree : ∀ y ∈ scope.names, y.2 = .free → ∃ c, X.env.cells.lookup y.1 = some c)
    (h : ∀ (f c' : Addr) (pm ctv : Value) (ps' : Array Value) (H1 : Hp) (s' : Shared), Inv X pins σ H1 s' → (∀ b o, b ≠ P → H b = some o → H1 b = some o) → H1 P = some (.tbl ps') → TriplesOk ps'.toList →
      (∀ (pos : Pos) (cv : Value), codeAmong pos ps'.toList = some cv → cv = .ref c' ∨ ∃ pos', codeAmong pos' ps.toList = some cv) → H1 c' = some (CodeO c' (X.env.qual ++ "<lambda>")) → (H c' = none ∨ ∃ pos', codeAmong pos' ps.toList = some (.ref c')) →
      s'.heap.get? f = some (lmObj (X.env.qual ++ "<lambda>") params body scope (cloFrom X.env.cells scope.names []) pm c' ctv) → H1 f = none → f ∉ frs X.stack → X.s_0.heap.objs.size ≤ f → Q (.ref f) s') :
    wpAny (model X.prog X.w) X.A (eval (.Lambda params body scope pos) X.env) Q E s := by
  refine PySem.W.kla_eval hdef ?_
  have bP : s.heap.BuiltinsAt X.mg P := TB.bm.keeps I.bk
  have hP' : s.heap.get? P = some { cls := .none, data := .fields ps } := I.hok P _ hP
  have nofr : ∀ f, s.heap.objs.size ≤ f → f ∉ frs X.stack := fun f hf z => by
    rcases List.mem_cons.mp (I.stkSub _ z) with e | e
    · have h1 := I.lt
      rw [← e] at h1
      exact absurd (Nat.lt_of_lt_of_le h1 hf) (Nat.lt_irrefl _)
    · exact I.nofs hf e
  cases hc : codeAmong pos ps.toList with
  | none =>
    refine PySem.W.kla_makeFunction (mg := X.mg) (c := c) (P := P) (ps := ps) (closure_ok hfree) I.ok.glob (I.mod.glob.keeps I.bk) hcode (TB.code.keeps I.bk) hP' ht hc TB.gP bP fun c' ctv h' tk hx hge hlt hrec htb => ?_
    obtain ⟨c2, oc, vs, t, e2, hoc, hd, hv⟩ := hrec
    cases e2
    have hsz : s.heap.objs.size ≤ h'.objs.size := Nat.le_trans hge (Nat.le_of_lt hlt)
    have nC : H c' = none := I.hok.fresh hge
    have cP : c' ≠ P := fun z => by rw [z, hP] at nC; cases nC
    have I1 := inv_table (t' := tk) (more := #[rawInt pos.line, rawInt pos.col, .ref c']) (h' := h'.push (lmObj (X.env.qual ++ "<lambda>") params body scope (cloFrom X.env.cells scope.names []) ((X.mg "__name__").getD .none) c' ctv)) I hP
      (fun b o hb e => Heap.get?_push_of_some _ (hx b o hb e)) (Heap.get?_push_of_some _ htb) hge ⟨oc, vs, t, Heap.get?_push_of_some _ hoc, hd, hv⟩
    have eL : (ps ++ #[rawInt pos.line, rawInt pos.col, .ref c']).toList = ps.toList ++ [rawInt pos.line, rawInt pos.col, .ref c'] := by simp
    refine h h'.objs.size c' ((X.mg "__name__").getD .none) ctv (ps ++ #[rawInt pos.line, rawInt pos.col, .ref c']) _ _ I1 (fun b o n e => ?_) ?_ (by rw [eL]; exact PySem.TriplesOk_snoc _ _ _ _ ht) (fun p' cv hcv => ?_) upd_same (.inl nC) (Heap.get?_push_size _ rfl) ?_ (nofr _ hsz) (Nat.le_trans I.sz hsz)
    · rw [upd_ne (ne_of_none e nC), upd_ne n]; exact e
    · rw [upd_ne (Ne.symm cP), upd_same]
    · rw [eL] at hcv
      rcases among_app _ ht hcv with z | z
      · exact .inr ⟨p', z⟩
      · exact .inl z
    · have n1 : h'.objs.size ≠ c' := Nat.ne_of_gt hlt
      have n2 : h'.objs.size ≠ P := Nat.ne_of_gt (Nat.lt_of_lt_of_le (Heap.lt_size hP') hsz)
      rw [upd_ne n1, upd_ne n2]
      exact I.hok.fresh hsz
  | some cv =>
    obtain ⟨c', e, hco⟩ := ha pos cv hc
    subst e
    refine PySem.W.kla_makeFunctionHit (mg := X.mg) (c := c) (P := P) (ps := ps) (closure_ok hfree) I.ok.glob (I.mod.glob.keeps I.bk) hcode (TB.code.keeps I.bk) hP' ht hc bP fun ctv h' tk hx hsz => ?_
    have I1 : Inv X pins σ H { s with heap := h'.push (lmObj (X.env.qual ++ "<lambda>") params body scope (cloFrom X.env.cells scope.names []) ((X.mg "__name__").getD .none) c' ctv), toks := tk } := I.kept fun b o e => Heap.get?_push_of_some _ (hx b o e)
    exact h h'.objs.size c' ((X.mg "__name__").getD .none) ctv ps H _ I1 (fun b o _ e => e) hP ht (fun p' cv z => .inr ⟨p', z⟩) hco (.inr ⟨pos, hc⟩) (Heap.get?_push_size _ rfl) (I.hok.fresh hsz) (nofr _ hsz) (Nat.le_trans I.sz hsz)
end
/-- the cells behind the making -/
theorem rel_tab {K : PySem.W.Frag} {r w : List Addr} {h : MH} {H H1 : Hp} {P c' : Addr} {n : Nat} {q : Str} {ps ps' : Array Value} (R : Rel K r w h H) (hn : h[n]? = some (.tab n)) (hr : r[n]? = some P) (hq : Tabs.nm n = q)
    (kp : ∀ b o, b ≠ P → H b = some o → H1 b = some o) (h1 : H1 P = some (.tbl ps')) (ht : TriplesOk ps'.toList) (ha : ∀ (pos : Pos) (cv : Value), codeAmong pos ps'.toList = some cv → cv = .ref c' ∨ ∃ pos', codeAmong pos' ps.toList = some cv)
    (hP : H P = some (.tbl ps)) (hc : H1 c' = some (CodeO c' q)) (hc0 : H c' = none ∨ ∃ pos', codeAmong pos' ps.toList = some (.ref c')) : Fwd r H r H1 ∧ Rel K r w h H1 := by
  have hPr : P ∈ r := List.mem_of_getElem? hr
  have ct := R.at_ n P _ hr hn
  simp only [CRel] at ct
  obtain ⟨ea, ps0, t1, t2, t3⟩ := ct
  rw [hP] at t1
  cases t1
  have F : Fwd r H r H1 := ⟨⟨[], by simp, fun _ z => nomatch z⟩, fun a o na e => kp a o (fun z => na (by rw [z]; exact hPr)) e, fun a o u e => kp a _ (fun z => by rw [z, hP] at e; cases e) e⟩
  refine ⟨F, R.len, R.nd, fun m a c hm hcm => ?_, fun d hd => ?_⟩
  · by_cases e : m = n
    · subst e
      rw [hr] at hm; cases hm
      rw [hn] at hcm; cases hcm
      simp only [CRel]
      refine ⟨ea, ps', h1, ht, fun pos cv z => ?_⟩
      rcases ha pos cv z with z | ⟨p2, z⟩
      · subst z
        rw [hq]
        rcases hc0 with z0 | ⟨p2, z0⟩
        · exact ⟨c', rfl, ⟨R.nin z0, R.ninw z0⟩, hc⟩
        · obtain ⟨c, e1, n1, e2⟩ := t3 p2 _ z0
          cases e1
          exact ⟨c', rfl, n1, hc⟩
      · obtain ⟨c, e1, n1, e2⟩ := t3 p2 _ z
        exact ⟨c, e1, n1, kp c _ (fun z => n1.1 (by rw [z]; exact hPr)) e2⟩
    · refine (R.at_ m a c hm hcm).map F.stp ?_
      have ne : a ≠ P := fun z => e (by
        subst z
        exact (List.getElem?_inj (List.getElem?_eq_some_iff.mp hm).1 R.nd).mp (hm.trans hr.symm))
      obtain ⟨o, eo⟩ := (R.at_ m a c hm hcm).there
      rw [kp a o ne eo, eo]
  · obtain ⟨n1, o, e⟩ := R.wh d hd
    exact ⟨n1, o, kp d o (fun z => n1 (by rw [z]; exact hPr)) e⟩
/-- what the lambda needs of its def: its scope, its place in the text -/
structure LamOk (X : Cx) (N fr : List Str) (p : Str) (js : List Nat) (params : Arguments) (body : Expr) (scope : Scope) : Prop where
  sc : NScope N [p] fr scope
  nn : N = p :: fr
  bind : ∀ (q : Str) (cl : List (Str × Addr)) (pm c ct : Value) (us : List Value), us.length = 1 → bindArgs (PySem.W.kla_fn "<lambda>" q params body scope cl pm c ct) ⟨us, []⟩ = pure ([p].zip us)
  dflt : defaultsOf params X.env = ([], [])
  free : ∀ y ∈ scope.names, y.2 = .free → X.env.scope.names.lookup y.1 = some .cell ∨ X.env.scope.names.lookup y.1 = some .free
  frs : ∀ y ∈ fr, (y, NameKind.free) ∈ scope.names
  at_ : js.map (fun j => X.N[j]?) = fr.map some
theorem sr_lam {K : PySem.W.Frag} {r w : List Addr} {H : Hp} {s : SM} {σ : L2.St} {x : MV} {u : V} {N : List Str} {js : List Nat} (S : SR K r w H s σ) (V1 : VR K r w H x u) (hl : N.length = js.length + 1) :
    SR K r w H (some x :: js.map fun j => (s[j]?).join) (startF N [u] (js.map (slotAt σ))) := by
  unfold startF
  refine ⟨by simp; omega, fun i v e => ?_⟩
  cases i with
  | zero =>
    simp only [List.getElem?_cons_zero, Option.some.injEq] at e
    subst e
    exact ⟨u, rfl, V1⟩
  | succ i =>
    rw [List.getElem?_cons_succ, List.getElem?_map] at e
    cases ej : js[i]? with
    | none => rw [ej] at e; simp at e
    | some j =>
      rw [ej] at e
      simp only [Option.map_some, Option.some.injEq] at e
      cases es : s[j]? with
      | none => rw [es] at e; simp at e
      | some o =>
        rw [es] at e
        simp only [Option.join_some] at e
        subst e
        obtain ⟨y, e1, e2⟩ := S.2 j v es
        refine ⟨y, ?_, e2⟩
        have hi : i < (js.map (slotAt σ)).length := by simpa using (List.getElem?_eq_some_iff.mp ej).1
        show (List.map some [u] ++ (js.map (slotAt σ) ++ _))[i + 1]? = _
        rw [List.map_cons, List.map_nil, List.singleton_append, List.getElem?_cons_succ, List.getElem?_append_left hi, List.getElem?_map, ej]
        show some (slotAt σ j) = _
        rw [slotAt_of e1]
section
variable {X : Cx} {pins : List (Addr × Obj)} {σ : L2.St} {H : Hp} {s : Shared} {N fr : List Str} {p : Str} {js : List Nat} {params : Arguments} {body : Expr} {scope : Scope} {q : Str} {f c : Addr} {pm ct : Value} {k : Nat}
/-- one call -/
theorem key_turn {A : Around} {r w : List Addr} {hj hj' : MH} {sm : SM} {mb : XE} {x : MV} {u : Value} {v : V} {n : Int} (L : LamOk X N fr p js params body scope) (hA : A.frames = some X.stack) (hr : Room (k + 1) A)
    (hbody : ∀ (A : Around) (outer : List Env) (s : Shared) (H : Hp) (E : XK) (f c : Addr), Room k (A.deeper (envF (lmF q params scope (cloFrom X.env.cells scope.names []) c) f s.heap.objs.size)) → ME (ncx CX0 X.prog X.w X.K X.mg X.base N (lmF q params scope (cloFrom X.env.cells scope.names []) c) f A outer s H E) body mb)
    (I : Inv X pins σ H s) (ho : s.heap.get? f = some (lmObj q params body scope (cloFrom X.env.cells scope.names []) pm c ct)) (hc : H c = some (CodeO c q)) (R : Rel X.K r w hj H) (S : SR X.K r w H sm σ) (hv : L2.RelV v u) (V1 : VR X.K r w H x v)
    (e : mb (some x :: js.map fun j => (sm[j]?).join) hj = some (.int n, hj')) :
    wpAny (model X.prog X.w) A (call (.ref f) [u]) (fun y s2 => ∃ t r2 H2, y = Value.int n t ∧ Inv X pins σ H2 s2 ∧ Un (L2.frs X.stack) [] H H2 s.heap s2.heap ∧ Fwd r H r2 H2 ∧ Rel X.K r2 w hj' H2) (fun _ _ => False) s := by
  have hl : N.length = js.length + 1 := by
    have := congrArg List.length L.at_
    rw [List.length_map, List.length_map] at this
    rw [L.nn, List.length_cons, this]
  have e0 : Env0 X.prog X.w X.K X.mg X.base A X.stack s H := ⟨hA, I.ok.mod, I.bs, Nat.le_trans I.ok.bsz I.sz, I.stack, I.stkFree, I.hok, I.bare⟩
  have hfree : ∀ y ∈ scope.names, y.2 = .free → ∃ c, X.env.cells.lookup y.1 = some c := fun y hy e => (L.free y hy e).elim (fun z => I.ok.has _ (.inl z)) fun z => I.ok.has _ (.inr z)
  refine wpAny_call (codeAny_mono (lam_call (Q := fun y H2 => ∃ r2, Fwd r H r2 H2 ∧ Rel X.K r2 w hj' H2 ∧ y = .int n) (E := E0) (outer := X.stack) (k := k) L.sc (fun us hu => L.bind q _ pm (.ref c) ct us hu) hr e0 ho (codeO_at I.hok hc) (cells_of I (Caps.made I.ok L.free L.frs L.at_)) (.cons hv .nil) rfl
    (hbody A X.stack s H E0 f c (hr.deeper _)) ⟨r, w, _, hj, .int n, hj', R, sr_lam S V1 hl, e, fun r2 y H2 F2 R2 q => ?_⟩) fun rs s2 h2 => ?_)
  · simp only [VR] at q
    exact ⟨r2, F2, R2, q⟩
  · cases rs with
    | error e => exact h2.elim
    | ok fl =>
      cases fl with
      | ret y =>
        obtain ⟨y2, H2, os, bare, un, hok, rv, r2, F2, R2, e2⟩ := h2
        subst e2
        obtain ⟨t, rfl⟩ := rv
        exact ⟨t, r2, H2, rfl, I.call' (ch := []) os un hok bare (fun b z => nomatch z), un, F2, R2⟩
      | next => exact False.elim h2
      | brk => exact False.elim h2
      | cont => exact False.elim h2
end
/-! ### the sort -/
theorem zip3 : ∀ (ks : List Int) (xs : List MV) (us : List V), xs.length = us.length → (ks.zip (xs.zip us)).map (fun b : Int × MV × V => (b.1, b.2.1)) = ks.zip xs
  | [], _, _, _ => by simp
  | _ :: _, [], _, _ => by simp
  | _ :: _, _ :: _, [], h => by simp at h
  | k :: ks, x :: xs, u :: us, h => by simp [zip3 ks xs us (by simpa using h)]
section
variable {X : Cx} {pins : List (Addr × Obj)} {σ : L2.St} {H : Hp} {s : Shared} {N fr : List Str} {p : Str} {js : List Nat} {params : Arguments} {body : Expr} {scope : Scope} {q : Str} {f c : Addr} {pm ct : Value} {k : Nat}
theorem keyGo_len {js : List Nat} {b : XE} {sm : SM} : ∀ {xs : List MV} {h h' : MH} {ks : List Int}, keyGo js b sm xs h = some (ks, h') → ks.length = xs.length
  | [], h, h', ks, e => by simp only [keyGo, Option.some.injEq, Prod.mk.injEq] at e; rw [← e.1]; rfl
  | x :: xs, h, h', ks, e => by
    unfold keyGo at e
    split at e
    · rename_i n h1 e1
      cases e2 : keyGo js b sm xs h1 with
      | none => rw [e2] at e; cases e
      | some r =>
        obtain ⟨ks2, h2⟩ := r
        rw [e2] at e
        simp only [Option.some.injEq, Prod.mk.injEq] at e
        rw [← e.1, List.length_cons, List.length_cons, keyGo_len e2]
    · cases e
/-- the keys of all items, and the sort: ksk_rest -/
theorem key_sort {A : Around} {r w : List Addr} {h0 hz : MH} {sm : SM} {mb : XE} {xs : List MV} {us : List V} {vs : List Value} {ks : List Int} {a kS : Addr} {e1 : Nat} {P : PySem.Fin → Shared → Prop} (L : LamOk X N fr p js params body scope) (hA : A.frames = some X.stack) (hr : Room (k + 1) A)
    (hbody : ∀ (A : Around) (outer : List Env) (s : Shared) (H : Hp) (E : XK) (f c : Addr), Room k (A.deeper (envF (lmF q params scope (cloFrom X.env.cells scope.names []) c) f s.heap.objs.size)) → ME (ncx CX0 X.prog X.w X.K X.mg X.base N (lmF q params scope (cloFrom X.env.cells scope.names []) c) f A outer s H E) body mb)
    (I : Inv X pins σ H s) (ho : s.heap.get? f = some (lmObj q params body scope (cloFrom X.env.cells scope.names []) pm c ct)) (hfn : H f = none) (hfr : f ∉ L2.frs X.stack) (hc : H c = some (CodeO c q)) (ncr : c ∉ r) (R : Rel X.K r w h0 H) (S : SR X.K r w H sm σ) (hv : Vals us vs) (V1 : VRs X.K r w H xs us)
    (e : keyGo js mb sm xs h0 = some (ks, hz)) (nk : s.heap.get? kS = some (PyProof.Rows.seqObj "list" #[] 0)) (na : s.heap.get? a = some (PyProof.Rows.seqObj "list" #[] e1)) (hka : kS ≠ a) (hkn : H kS = none) (han : H a = none) (hkf : kS ∉ L2.frs X.stack) (haf : a ∉ L2.frs X.stack)
    (hsz : X.s_0.heap.objs.size ≤ kS) (hsa : X.s_0.heap.objs.size ≤ a) (hkl : kS ≠ X.env.locals) (hal : a ≠ X.env.locals) (hkc : ∀ x c, X.env.cells.lookup x = some c → c ≠ kS) (hac : ∀ x c, X.env.cells.lookup x = some c → c ≠ a) (hkp : ∀ p ∈ X.pn ++ pins, p.1 ≠ kS) (hap : ∀ p ∈ X.pn ++ pins, p.1 ≠ a) (hZ : vs.length ≤ sizeLine)
    (done : ∀ (r2 : List Addr) (H2 : Hp) (s2 : Shared) (us2 : List V), Fwd r H r2 H2 → Rel X.K r2 w hz H2 → H2 a = none → VRs X.K r2 w H2 (((ks.zip xs).mergeSort fun p q => decide (p.1 ≤ q.1)).map (·.2)) us2 → Inv X pins σ (upd H2 a (.lst us2)) s2 → P (.done (.ret .none)) s2) :
    wpAny (model X.prog X.w) A (PyProof.Rows.ksk_rest a (.ref f) false vs.toArray e1 (.ref kS)) P (fun _ _ => False) s := by
  have hxl := VRs.length V1
  have hul := hv.length
  have hkl2 := keyGo_len e
  unfold PyProof.Rows.ksk_rest
  refine wpAny_bind (wpAny_rule ?_)
  rw [List.forIn_toArray]
  refine wpAny_bind (PyProof.Rows.ksk_fold (fun i s' => ∃ (rj : List Addr) (hj : MH) (Hj : Hp) (kA : Array Value) (ej : Nat), Inv X pins σ Hj s' ∧ Fwd r H rj Hj ∧ Rel X.K rj w hj Hj ∧ s'.heap.get? f = some (lmObj q params body scope (cloFrom X.env.cells scope.names []) pm c ct) ∧ Hj f = none ∧
      s'.heap.get? kS = some (PyProof.Rows.seqObj "list" kA ej) ∧ Hj kS = none ∧ s'.heap.get? a = some (PyProof.Rows.seqObj "list" #[] e1) ∧ Hj a = none ∧ Vals ((ks.take i).map V.int) kA.toList ∧ keyGo js mb sm (xs.drop i) hj = some (ks.drop i, hz)) vs 0 s
    ⟨r, h0, H, #[], 0, I, Fwd.refl r H, R, ho, hfn, nk, hkn, na, han, by simp; exact .nil, by simpa using e⟩ ?step ?fin)
  case step =>
    rintro j x s' hx ⟨rj, hj, Hj, kA, ej, Ij, Fj, Rj, oj, nj, kj, knj, aj, anj, vj, gj⟩
    simp only [Nat.zero_add] at gj vj ⊢
    have hjl : j < vs.length := (List.getElem?_eq_some_iff.mp hx).1
    have hjx : j < xs.length := by omega
    have hjk : j < ks.length := by omega
    rw [List.drop_eq_getElem_cons hjx] at gj
    unfold keyGo at gj
    split at gj
    · rename_i n h1 e1'
      cases e2 : keyGo js mb sm (xs.drop (j + 1)) h1 with
      | none => rw [e2] at gj; cases gj
      | some rr =>
        obtain ⟨ks2, h2⟩ := rr
        rw [e2] at gj
        simp only [Option.some.injEq, Prod.mk.injEq] at gj
        obtain ⟨g1, g2⟩ := gj
        subst g2
        rw [List.drop_eq_getElem_cons hjk] at g1
        injection g1 with g1 g3
        obtain ⟨u, eu, Vu⟩ := VRs.get V1 (List.getElem?_eq_getElem hjx)
        obtain ⟨x', ex', rx⟩ := hv.get eu
        rw [hx] at ex'
        cases ex'
        have hcj : Hj c = some (CodeO c q) := Fj.keep c _ ncr hc
        refine wpAny_bind (wpAny_attempt (wpAny_mono (key_turn L hA hr hbody Ij oj hcj Rj (S.fwd Fj) rx (Vu.fwd Fj) e1') (fun y s2 hy => ?_) fun _ _ z => z.elim))
        obtain ⟨t, r2, H2, rfl, I2, un, F2, R2⟩ := hy
        try dsimp only
        have kp2 : ∀ b o, s'.heap.get? b = some o → Hj b = none → b ∉ L2.frs X.stack → s2.heap.get? b = some o ∧ H2 b = none := fun b o z1 z2 z3 => ⟨un.keep b o z1 z2 z3 (by simp), un.free b o z1 z2 (by simp)⟩
        obtain ⟨o2, n2⟩ := kp2 f _ oj nj hfr
        obtain ⟨k2, kn2⟩ := kp2 kS _ kj knj hkf
        obtain ⟨a2, an2⟩ := kp2 a _ aj anj haf
        have sb := Heap.SameBut.update s2.heap kS (Obj.mapSeq (·.push (Value.int n t)))
        obtain ⟨c2, hc2⟩ : ∃ c2, (s2.heap.update kS (Obj.mapSeq (·.push (Value.int n t)))).get? kS = some (PyProof.Rows.seqObj "list" (kA.push (Value.int n t)) c2) := ⟨_, PyProof.Rows.get?_update_seq k2 (·.push (Value.int n t))⟩
        have hkz : kA.size ≤ vs.length := by
          have := vj.length
          have h2 : kA.toList.length = kA.size := Array.length_toList
          rw [List.length_map, List.length_take] at this
          omega
        refine wpAny_bind (PyProof.Rows.listUpdate_at k2 rfl ?_ (Nat.le_trans hkz hZ) (Nat.le_trans (Nat.le_of_eq (Array.size_push ..)) (Nat.succ_le_succ (Nat.le_trans hkz hZ))))
        refine wpAny_pure ⟨rfl, r2, h1, H2, kA.push (Value.int n t), c2, ?_, Fj.tr Rj F2, R2, (sb.2 f (fun z => by rw [z, k2] at o2; exact absurd (congrArg Obj.data (Option.some.inj o2)) (fun y => by cases y))).trans o2, n2, hc2, kn2, (sb.2 a (Ne.symm hka)).trans a2, an2, ?_, ?_⟩
        · exact I2.turned (t' := s2.toks) (it := kS) (fun b o hb z => (sb.2 b hb).trans z) kn2 hkl (.inr hsz) hkc hkp
        · rw [Array.toList_push, List.take_succ_eq_append_getElem hjk, List.map_append]
          exact vj.append (.cons ⟨t, by rw [g1]⟩ .nil)
        · rw [e2, g3]
    · cases gj
  case fin =>
    rintro s' ⟨rj, hj, Hj, kA, ej, Ij, Fj, Rj, oj, nj, kj, knj, aj, anj, vj, gj⟩
    simp only [Nat.zero_add] at gj vj
    rw [List.take_of_length_le (by omega)] at vj
    rw [List.drop_eq_nil_of_le (by omega)] at gj
    simp only [keyGo, Option.some.injEq, Prod.mk.injEq] at gj
    obtain ⟨_, rfl⟩ := gj
    have hks : kA.size = vs.length := by
      have h1 := vj.length
      have h2 : kA.toList.length = kA.size := Array.length_toList
      rw [List.length_map] at h1
      omega
    have hread : PySem.W.EachIs (fun v d => ∃ as, Reads s'.heap v d as) kA.toList (ks.map PyData.int) := by
      have key : ∀ (ns : List Int) (ys : List Value), Vals (ns.map V.int) ys → PySem.W.EachIs (fun v d => ∃ as, Reads s'.heap v d as) ys (ns.map PyData.int) := fun ns => by
        induction ns with
        | nil => intro ys h; cases h; exact .nil
        | cons n ns ih =>
          intro ys h
          cases h with
          | cons h1 h2 =>
            obtain ⟨t, rfl⟩ := h1
            exact .cons ⟨[], .int _ _⟩ (ih _ h2)
      exact key ks _ vj
    have hal2 : PySem.W.AllAlike (ks.map PyData.int) := PySem.W.AllAlike.of fun _ _ => by simp [PySem.W.alike]
    have hso : PySem.W.Sortable (ks.map PyData.int) := Or.inr fun d hd => by
      obtain ⟨z, _, rfl⟩ := List.mem_map.mp hd
      exact ⟨by simp, fun xs => by simp⟩
    have hu : ∀ d, d ∈ ks.map PyData.int → A.units + d.depth < cLine := fun d hd => by
      obtain ⟨z, _, rfl⟩ := List.mem_map.mp hd
      have := hr.units
      simp only [PyData.depth]
      omega
    -- the items, each with its key
    let bs : List (Int × MV × V) := ks.zip (xs.zip us)
    have eb : bs.map (fun b => PyData.int b.1) = ks.map PyData.int := by
      show (ks.zip (xs.zip us)).map _ = _
      have : (ks.zip (xs.zip us)).map (fun b : Int × MV × V => PyData.int b.1) = ((ks.zip (xs.zip us)).map Prod.fst).map PyData.int := by simp
      rw [this, List.map_fst_zip (by rw [List.length_zip]; omega)]
    have Ve := VRs.fwd Fj _ _ V1
    have each : PySem.W.EachIs (fun (v : Value) (b : Int × MV × V) => L2.RelV b.2.2 v ∧ VR X.K rj w Hj b.2.1 b.2.2) vs bs := by
      have key : ∀ (ks : List Int) (xs : List MV) (us : List V) (vs : List Value), ks.length = xs.length → Vals us vs → VRs X.K rj w Hj xs us → PySem.W.EachIs (fun (v : Value) (b : Int × MV × V) => L2.RelV b.2.2 v ∧ VR X.K rj w Hj b.2.1 b.2.2) vs (ks.zip (xs.zip us)) := fun ks => by
        induction ks with
        | nil =>
          intro xs us vs hl h1 h2
          have : xs = [] := List.length_eq_zero_iff.mp (by simpa using hl.symm)
          subst this
          simp only [VRs] at h2
          subst h2
          cases h1
          exact .nil
        | cons k ks ih =>
          intro xs us vs hl h1 h2
          cases xs with
          | nil => simp at hl
          | cons x xs =>
            simp only [VRs] at h2
            obtain ⟨u, t, rfl, q1, q2⟩ := h2
            cases h1 with
            | cons r1 r2 => exact .cons ⟨r1, q1⟩ (ih xs t _ (by simpa using hl) r2 q2)
      exact key ks xs us vs hkl2 hv Ve
    have hxz : xs.zip us = xs.zip us := rfl
    refine wpAny_bind (PyProof.Rows.listItems_at kj rfl ?_)
    have hhide : ∀ b o, (PySem.W.hideAll s'.heap [kS]).get? b = some o → s'.heap.get? b = some o := fun b o z => PySem.W.of_hideAll _ z
    refine PySem.W.keyH_end (κ := PySem.W.dataKind s'.heap (ks.map PyData.int)) (h₁ := PySem.W.hideAll s'.heap [kS]) (fun b o _ z => hhide b o z) (PySem.W.hideAll_none _ (List.mem_singleton.mpr rfl)) kj aj hka (PySem.W.SortsAt.data hread hal2 hso hu) hks hZ fun h' tk cc kp ha' => ?_
    have ko : PySem.W.KeyedOut false (bs.map fun b => PyData.int b.1) vs (PySem.W.sortVals (PySem.W.dataKind s'.heap (ks.map PyData.int)) false kA.toList vs) := by
      rw [eb]
      exact ⟨s'.heap, kA.toList, hal2, rfl, hread⟩
    have eo := PySem.W.keyedOut_each (fun b : Int × MV × V => PyData.int b.1) ko each
    rw [PySem.W.dataLe_int (fun b : Int × MV × V => b.1)] at eo
    -- what is sorted
    have kp2 : ∀ b o, b ≠ a → b ≠ kS → s'.heap.get? b = some o → h'.get? b = some o := fun b o h1 h2 z => kp b o h1 (PySem.W.hideAll_get _ z (by simpa using h2))
    have hout : Vals ((bs.mergeSort fun p q => decide (p.1 ≤ q.1)).map (·.2.2)) (PySem.W.sortVals (PySem.W.dataKind s'.heap (ks.map PyData.int)) false kA.toList vs) ∧ VRs X.K rj w Hj ((bs.mergeSort fun p q => decide (p.1 ≤ q.1)).map (·.2.1)) ((bs.mergeSort fun p q => decide (p.1 ≤ q.1)).map (·.2.2)) := by
      have key : ∀ (bs : List (Int × MV × V)) (vs : List Value), PySem.W.EachIs (fun (v : Value) (b : Int × MV × V) => L2.RelV b.2.2 v ∧ VR X.K rj w Hj b.2.1 b.2.2) vs bs → Vals (bs.map (·.2.2)) vs ∧ VRs X.K rj w Hj (bs.map (·.2.1)) (bs.map (·.2.2)) := fun bs => by
        induction bs with
        | nil => intro vs h; cases h; exact ⟨.nil, by simp [VRs]⟩
        | cons b bs ih =>
          intro vs h
          cases h with
          | cons h1 h2 =>
            obtain ⟨i1, i2⟩ := ih _ h2
            refine ⟨.cons h1.1 i1, ?_⟩
            simp only [List.map_cons, VRs]
            exact ⟨_, _, rfl, h1.2, i2⟩
      exact key _ _ eo
    have ex : (bs.mergeSort fun p q => decide (p.1 ≤ q.1)).map (·.2.1) = ((ks.zip xs).mergeSort fun p q => decide (p.1 ≤ q.1)).map (·.2) := by
      have e1 : (bs.mergeSort fun p q => decide (p.1 ≤ q.1)).map (fun b => (b.1, b.2.1)) = (bs.map fun b => (b.1, b.2.1)).mergeSort fun p q => decide (p.1 ≤ q.1) := List.map_mergeSort (fun _ _ _ _ => rfl)
      have e2 : bs.map (fun b => (b.1, b.2.1)) = ks.zip xs := by
        exact zip3 ks xs us hxl
      have e3 : (bs.mergeSort fun p q => decide (p.1 ≤ q.1)).map (·.2.1) = ((bs.mergeSort fun p q => decide (p.1 ≤ q.1)).map (fun b => (b.1, b.2.1))).map (·.2) := by simp
      rw [e3, e1, e2]
    obtain ⟨o1, o2⟩ := hout
    rw [ex] at o2
    have hlen : ((bs.mergeSort fun p q => decide (p.1 ≤ q.1)).map (·.2.2)).length ≤ sizeLine := by
      have h1 := VRs.length o2
      rw [← h1, List.length_map, List.length_mergeSort, List.length_zip]
      omega
    refine done rj Hj _ _ Fj Rj anj o2 ?_
    have tr : ∀ b u, Hj b = some u → b ≠ a ∧ b ≠ kS := fun b u z => ⟨ne_of_none z anj, ne_of_none z knj⟩
    refine Ij.step (h' := h') (t' := tk) (g' := s'.gens) (d' := s'.drawn) (ch := [a, kS]) (fun b hb => ?_) (fun b o _ _ hb z _ => kp2 b o (fun y => hb (by simp [y])) (fun y => hb (by simp [y])) z) (fun b o _ _ hb z _ => ⟨o.slots, kp2 b o (fun y => hb (by simp [y])) (fun y => hb (by simp [y])) z⟩)
      (fun b o hb z n => by rw [upd_ne (fun y => hb (by simp [y]))]; exact n) (fun b o hb z => ⟨o, kp2 b o (fun y => hb (by simp [y])) (fun y => hb (by simp [y])) z⟩) (fun b ys z => by rw [upd_ne (tr b _ z).1]; exact z) (fun b ob y z => by rw [upd_ne (tr b _ z).1]; exact z) (fun b y z => ⟨#[], by rw [upd_ne (tr b _ z).1, z]; simp⟩)
      (fun m hm => ?_) (fun b y z => ?_) Ij.bare
    · simp only [List.mem_cons, List.not_mem_nil, or_false] at hb
      rcases hb with rfl | rfl
      · exact ⟨.inr hsa, hal, hac, hap⟩
      · exact ⟨.inr hsz, hkl, hkc, hkp⟩
    · obtain ⟨ol, es, ep, z1, z2⟩ := hm
      exact ⟨ol, es, ep, kp2 _ ol (Ne.symm hal) (Ne.symm hkl) z1, z2⟩
    · by_cases hb : b = a
      · subst hb
        rw [upd_same] at z
        cases z
        exact ⟨hlen, _, cc, o1, ha'⟩
      · rw [upd_ne hb] at z
        refine (Ij.hok b y z).stay (fun d v hd q => ?_) (fun d q => by rw [upd_ne (tr d _ q).1]; exact q) fun d ys q => by rw [upd_ne (tr d _ q).1]; exact q
        rcases hd with rfl | hd
        · exact kp2 d v (tr d _ z).1 (tr d _ z).2 q
        · exact kp2 d v (tr d _ hd).1 (tr d _ hd).2 q
end
section
variable {X : Cx} {N fr : List Str} {p : Str} {js : List Nat} {params : Arguments} {body e : Expr} {scope : Scope} {c P : Addr} {k n : Nat} {me mb : XE} {p1 pos lpos kpos : Pos}
/-- sorted(e, key=lambda x: ..) -/
theorem mf_sortK (hm : X.mg "sorted" = none) (TB : TabB X.base X.mg c P) (hcode : X.env.code = .ref c) (hadr : Tabs.adr n = P) (hnm : Tabs.nm n = X.env.qual ++ "<lambda>") (L : LamOk X N fr p js params body scope) (he : ME X e me) (hr : Room (k + 3) X.A)
    (hbody : ∀ (A : Around) (outer : List Env) (s : Shared) (H : Hp) (E : XK) (f c : Addr), Room k (A.deeper (envF (lmF (X.env.qual ++ "<lambda>") params scope (cloFrom X.env.cells scope.names []) c) f s.heap.objs.size)) → ME (ncx CX0 X.prog X.w X.K X.mg X.base N (lmF (X.env.qual ++ "<lambda>") params scope (cloFrom X.env.cells scope.names []) c) f A outer s H E) body mb)
    (hg : Gl X "sorted" := by rfl) (he1 : backTo pos (starEach [e] X.env) = (false, eval e X.env) :: backTo pos (starEach [] X.env) := by rfl) (hpl : (backTo pos (starEach [e] X.env)).any (·.1) = false := by rfl)
    (he2 : starEach [e] X.env = (false, eval e X.env) :: starEach [] X.env := by rfl)
    (hall : (backToKw pos (keywordEach [⟨some "key", .Lambda params body scope lpos, kpos⟩] X.env)).all (·.1.isSome) = true := by rfl) (hnone : (backToKw pos (keywordEach [⟨some "key", .Lambda params body scope lpos, kpos⟩] X.env)).any (·.1.isNone) = false := by rfl)
    (hks : (backToKw pos (keywordEach [⟨some "key", .Lambda params body scope lpos, kpos⟩] X.env)).filterMap (·.1) = [Str.ofString "key"] := by rfl) :
    MF X (.Call (.Name "sorted" p1) [e] [⟨some "key", .Lambda params body scope lpos, kpos⟩] pos) (xSortK n js mb me) := by
  refine ⟨fun pins s σ H Q I ⟨r, w, sm, h, v, h', R, S, ev, C⟩ => ?_⟩
  unfold xSortK at ev
  cases e1 : me sm h with
  | none => rw [e1] at ev; cases ev
  | some q1 =>
    obtain ⟨v1, h1⟩ := q1
    rw [e1] at ev
    simp only at ev
    split at ev
    · rename_i m et
      split at ev
      · rename_i em
        subst em
        split at ev
        · rename_i xs exs
          split at ev
          · rename_i hxz
            split at ev
            · rename_i ks h2 eks
              simp only [Option.some.injEq, Prod.mk.injEq] at ev
              obtain ⟨rfl, rfl⟩ := ev
              refine wpAny_Call_Name_kw (ld_blt I hg hm PyProof.Rows.boot_sorted ?_ (by decide +kernel) (by decide +kernel))
              refine PyProof.Rows.callWith_kw (thn ((pa_cons he pa_nil he2).run pos pins s σ H (fun us H1 => ∃ r1 u, us = [u] ∧ Fwd r H r1 H1 ∧ Rel X.K r1 w h1 H1 ∧ VR X.K r1 w H1 v1 u) I ⟨r, w, sm, h, v1, h1, R, S, e1, fun r1 u H1 F1 R1 V1 => ⟨r1, u, rfl, F1, R1, V1⟩⟩) fun us s1 ⟨vs, H1, I1, rv, r1, u, ee, F1, R1, V1⟩ => ?_) he1 hpl hall hnone
              subst ee
              obtain ⟨a0, us1, rfl, sq, V2⟩ := list_sq X.K R1 V1 exs
              obtain rfl := Vals.ref1 rv
              have hcell : ∃ a, r1[m]? = some a := by
                have := (List.getElem?_eq_some_iff.mp et).1
                rw [← R1.len] at this
                exact ⟨_, List.getElem?_eq_getElem this⟩
              obtain ⟨P', hP'⟩ := hcell
              have ct := R1.at_ m P' _ hP' et
              simp only [CRel] at ct
              obtain ⟨ea, ps, t1, t2, t3⟩ := ct
              rw [hadr] at ea
              subst ea
              show wpAny _ _ (evalAll ((do let y ← eval (.Lambda params body scope lpos) X.env; standAt pos; pure y) :: (backToKw pos (keywordEach [] X.env)).map (·.2))) _ _ s1
              have hfree : ∀ y ∈ scope.names, y.2 = .free → ∃ c, X.env.cells.lookup y.1 = some c := fun y hy e => (L.free y hy e).elim (fun z => I1.ok.has _ (.inl z)) fun z => I1.ok.has _ (.inr z)
              refine wpAny_evalAll_cons (wpAny_bind (lam_make3 I1 TB hcode t1 t2 (fun p0 cv hcv => by
                obtain ⟨c0, z1, _, z2⟩ := t3 p0 cv hcv
                rw [hnm] at z2
                exact ⟨c0, z1, z2⟩) L.dflt hfree fun f c' pm ctv ps' H2 s2 I2 kp2 hP2 ht2 ha2 hc2 hc0 ho hfn hfr hfs => wpAny_bind (wpAny_standAt (wpAny_pure ?_))))
              refine wpAny_evalAll_nil ?_
              rw [hks]
              show wpAny _ _ (call (.builtin "sorted") [.ref a0] [(Str.ofString "key", .ref f)]) _ _ s2
              obtain ⟨F2, R2⟩ := rel_tab R1 et hP' hnm kp2 hP2 ht2 ha2 t1 hc2 hc0
              have ncr : c' ∉ r1 := fun hm => by
                obtain ⟨i, hi⟩ := List.getElem?_of_mem hm
                have hil : i < h1.length := by rw [← R2.len]; exact (List.getElem?_eq_some_iff.mp hi).1
                have := R2.at_ i c' h1[i] hi (List.getElem?_eq_getElem hil)
                cases hcc : h1[i] <;> rw [hcc] at this <;> simp only [CRel] at this
                · obtain ⟨us, z, _⟩ := this; rw [hc2] at z; cases z
                · obtain ⟨us, z, _⟩ := this; rw [hc2] at z; cases z
                · obtain ⟨us, z, _⟩ := this; rw [hc2] at z; cases z
                · obtain ⟨o, us, z, _⟩ := this; rw [hc2] at z; cases z
                · obtain ⟨o, us, z, _⟩ := this; rw [hc2] at z; cases z
                · obtain ⟨_, ps, z, _⟩ := this; rw [hc2] at z; cases z
              have sq2 : SqL X.K H2 a0 us1 := by
                rcases sq with (z | ⟨o, z⟩) | z
                · exact .inl (.inl (kp2 a0 _ (fun y => by rw [y, t1] at z; cases z) z))
                · exact .inl (.inr ⟨o, kp2 a0 _ (fun y => by rw [y, t1] at z; cases z) z⟩)
                · exact .inr z
              have V3 := VRs.fwd F2 _ _ V2
              have S2 := (S.fwd F1).fwd F2
              have C2 := (C.fwd F1 R1).fwd F2 R2
              obtain ⟨its, hv, hl, hz⟩ := I2.list sq2
              have hzl : its.length ≤ sizeLine := by rw [← hv.length]; exact hz
              refine PySem.W.sorted_of_sort hl.isList hzl (PyProof.Rows.ksk_s1 _ _) (fun _ => PyProof.Rows.ksk_l1 _ _) fun E' => ?_
              rw [PyProof.Rows.ksk_t1]
              have hsz : X.s_0.heap.objs.size ≤ s2.heap.objs.size := I2.sz
              -- the two lists that the call makes
              have old : ∀ b o, s2.heap.get? b = some o → b < s2.heap.objs.size := fun b o z => Heap.lt_size z
              have fr1 : ∀ d, s2.heap.objs.size ≤ d → H2 d = none ∧ d ∉ L2.frs X.stack ∧ X.s_0.heap.objs.size ≤ d ∧ d ≠ X.env.locals ∧ (∀ x c, X.env.cells.lookup x = some c → c ≠ d) ∧ ∀ p ∈ X.pn ++ pins, p.1 ≠ d := fun d hd => by
                refine ⟨I2.hok.fresh hd, fun z => ?_, Nat.le_trans hsz hd, fun z => ?_, fun x c0 hx z => ?_, fun p0 hp z => ?_⟩
                · rcases List.mem_cons.mp (I2.stkSub _ z) with y | y
                  · have := I2.lt; rw [← y] at this; exact absurd (Nat.lt_of_lt_of_le this hd) (Nat.lt_irrefl _)
                  · exact I2.nofs hd y
                · have := I2.lt; rw [← z] at this; exact absurd (Nat.lt_of_lt_of_le this hd) (Nat.lt_irrefl _)
                · obtain ⟨_, o, ho, _⟩ := I2.cell x c0 hx
                  rw [z] at ho
                  exact absurd (Nat.lt_of_lt_of_le (Heap.lt_size ho) hd) (Nat.lt_irrefl _)
                · have := (I2.pin p0 hp).1
                  rw [z] at this
                  exact absurd (Nat.lt_of_lt_of_le (Heap.lt_size this) hd) (Nat.lt_irrefl _)
              have hca := PySem.W.copyHeap_at s2.heap its
              have hcs : (PySem.W.copyHeap s2.heap its).objs.size = s2.heap.objs.size + 2 := by
                unfold PySem.W.copyHeap
                rw [PyProof.Rows.size_push', Heap.size_update, PyProof.Rows.size_push']
              obtain ⟨ep, hep⟩ : ∃ ep, ((PySem.W.copyHeap s2.heap its).update (s2.heap.objs.size + 1) (Obj.mapSeq fun _ => (#[] : Array Value))).get? (s2.heap.objs.size + 1) = some (PyProof.Rows.seqObj "list" #[] ep) := ⟨_, PyProof.Rows.get?_update_seq hca fun _ => #[]⟩
              unfold PyProof.Rows.ksk_tree
              refine wpAny_bind (PyProof.Rows.listItems_at hca rfl (wpAny_bind (PyProof.Rows.listUpdate_at hca rfl ?_ (by rw [List.size_toArray]; exact hzl) (Nat.zero_le _))))
              refine wpAny_bind (PyProof.Rows.seqEpoch_at hep rfl (wpAny_bind (wpAny_newTuple ?_ (show its.length ≤ sizeLine from hzl))))
              refine wpAny_bind (wpAny_newList (wpAny_holding ?_) (Nat.zero_le _))
              have hks2 : (((PySem.W.copyHeap s2.heap its).update (s2.heap.objs.size + 1) (Obj.mapSeq fun _ => (#[] : Array Value))).push (PyProof.Rows.seqObj "tuple" its.toArray 0)).objs.size = s2.heap.objs.size + 3 := by
                rw [PyProof.Rows.size_push', Heap.size_update, hcs]
              have keepS : ∀ b o, s2.heap.get? b = some o → (PySem.W.sortingHeap (PySem.W.copyHeap s2.heap its) (s2.heap.objs.size + 1) its).get? b = some o := fun b o z => PySem.W.sorting_copy_old z
              have I3 : L2.Inv X pins σ H2 { s2 with heap := PySem.W.sortingHeap (PySem.W.copyHeap s2.heap its) (s2.heap.objs.size + 1) its, toks := s2.toks } := I2.kept keepS
              obtain ⟨n1, n2, n3, n4, n5, n6⟩ := fr1 (s2.heap.objs.size + 1) (Nat.le_succ _)
              obtain ⟨m1, m2, m3, m4, m5, m6⟩ := fr1 (s2.heap.objs.size + 3) (Nat.le_add_right _ _)
              have g1 := key_sort (kS := s2.heap.objs.size + 3) (a := s2.heap.objs.size + 1) (e1 := ep) (q := X.env.qual ++ "<lambda>") (A := X.A.in1.in1) (P := fun fl s' => fl = .done (.ret .none) ∧ EP X pins σ Q (.ref (s2.heap.objs.size + 1)) s') L I3.ok.frames (hr.in1.in1) hbody I3 (keepS _ _ ho) hfn hfr hc2 ncr R2 S2 hv V3 eks
                (by
                  show (PySem.W.sortingHeap _ _ _).get? _ = _
                  unfold PySem.W.sortingHeap
                  rw [← hks2]
                  exact Heap.get?_push_size _ rfl)
                (Heap.get?_push_of_some _ (Heap.get?_push_of_some _ hep)) (fun z => by have z : s2.heap.objs.size + 3 = s2.heap.objs.size + 1 := z; omega) m1 n1 m2 n2 m3 n3 m4 n4 m5 n5 m6 n6 hzl
                (fun r3 H3 s3 us3 F3 R3 na V4 I4 => ⟨rfl, .ref (s2.heap.objs.size + 1), _, I4, rfl, (C2.fwd F3 R3).lst R3 na V4⟩)
              rw [← hks2] at g1
              exact wpAny_mono g1 (fun _ _ z => z) fun _ _ z => z.elim
            · cases ev
          · cases ev
        · cases ev
      · cases ev
    · cases ev
end
end Ew
end

section
set_option Elab.async false
set_option linter.all false
set_option maxRecDepth 100000
set_option maxHeartbeats 4000000
/-! EwQ: defs that make lambdas; the law's end with their tables. -/
namespace Ew
open PySem PySem.Spec PyProof.Rows L2
variable [Tabs]
section
variable {P : Program} {w : World} {K : PySem.W.Frag} {mg : Str → Option Value} {base : Heap} {x : Str} {n k : Nat}
/-- the def st, its body's function b, its code object at c -/
theorem def_fnT {N ps : List Str} {st : Stmt} {f c : Addr} {fd : FuncData} {b : XS} (F : L2.Fun K x x st f fd) (hcd : fd.code = .ref c) (S : FnScope N ps (defScope st))
    (body : ∀ (A : Around) (outer : List Env) (s : Shared) (H : Hp) (E : XK), Room k (A.deeper (envOfC x (defScope st) s.heap.objs.size f (.ref c))) →
      MSs (cxOf CX0 P w K mg base N x (defScope st) f (.ref c) A outer s H E).nox (defBody st) b) : FnOk P w K mg base CX0 (k + 1) f fd ps (spM K ps.length (runDef N.length b)) := by
  obtain ⟨oc, od, kV, doc, pm, an, cdv, ct, osl, efd, lk, hc2⟩ := F.ex
  subst efd
  have e : cdv = .ref c := hcd
  subst e
  refine fn_of lk hc2 S (fun vs H Q E h => h.1) (fun A outer s H us Q E hr h => ?_)
  obtain ⟨hl, r, w', hh, vs, v, h', R, V, e, C⟩ := h
  refine ⟨_, (body A outer s H E hr).nox, ?_⟩
  have S0 : SR K r w' H (sBegin N.length vs) (L2.start N us) := by
    have hvl := VRs.length V
    refine ⟨by simp [sBegin, L2.start, hvl], fun i y ey => ?_⟩
    unfold sBegin at ey
    unfold L2.start
    by_cases hi : i < vs.length
    · rw [List.getElem?_append_left (by simpa using hi), List.getElem?_map] at ey
      cases ev : vs[i]? with
      | none => rw [ev] at ey; simp at ey
      | some y' =>
        rw [ev] at ey
        simp only [Option.map_some, Option.some.injEq] at ey
        subst ey
        obtain ⟨u, e1, e2⟩ := VRs.get V ev
        refine ⟨u, ?_, e2⟩
        rw [List.getElem?_append_left (by simpa [← hvl] using hi), List.getElem?_map, e1]
        rfl
    · rw [List.getElem?_append_right (by simpa using hi), List.getElem?_replicate] at ey
      split at ey <;> cases ey
  unfold runDef at e
  split at e
  · rename_i v1 s1 h1 e1
    simp only [Option.some.injEq, Prod.mk.injEq] at e
    obtain ⟨rfl, rfl⟩ := e
    exact ⟨r, w', _, hh, .rt v1, s1, h1, R, S0, e1, C⟩
  · rename_i s1 h1 e1
    simp only [Option.some.injEq, Prod.mk.injEq] at e
    obtain ⟨rfl, rfl⟩ := e
    exact ⟨r, w', _, hh, .nx, s1, h1, R, S0, e1, fun r1 z1 H1 F1 R1 S1 => C r1 .non H1 F1 R1 (by simp only [VR])⟩
  · cases e
theorem def_okT {N ps : List Str} {st : Stmt} {f c : Addr} {fd : FuncData} {b : XS} (F : L2.Fun K x x st f fd) (hg : mg x = some (.ref f)) (hcd : fd.code = .ref c) (S : FnScope N ps (defScope st))
    (hb : ∀ (kV doc pm : Value) (an : Option Addr) (cdv ct : Value) (us : List Value), us.length = ps.length → bindArgs (PySem.W.fnOf x x (defArgs st) (defBody st) (defScope st) .none kV doc pm an cdv ct) ⟨us, []⟩ = pure (ps.zip us))
    (body : ∀ (A : Around) (outer : List Env) (s : Shared) (H : Hp) (E : XK), Room k (A.deeper (envOfC x (defScope st) s.heap.objs.size f (.ref c))) →
      MSs (cxOf CX0 P w K mg base N x (defScope st) f (.ref c) A outer s H E).nox (defBody st) b) : Cal P w K mg base x ps.length (spM K ps.length (runDef N.length b)) (k + 1) :=
  ⟨f, fd, ps, def_fnT F hcd S body, rfl, hg, F.kp, F.binds hb⟩
end
/-- what is known of a def's table at the head's end -/
def TabAt (mg : Str → Option Value) (h : Heap) (nm : Str) : Prop := ∃ a o fd c P, mg nm = some (.ref a) ∧ h.get? a = some o ∧ o.data = .func fd ∧ fd.code = .ref c ∧ PySem.W.CodeHd h c P ∧ h.get? P = some { cls := .none, data := .fields #[] }
omit [Tabs] in
/-- the law's end, the tables of the defs called names known -/
theorem walk_ofTabs {l : PySem.W.OpenLaw} {n k : Nat} {q : Program} {loose : List Str} {XP : (Str → Option Value) → Heap → Prop} {YP : World → Heap → Prop} {d : DefRec} {K : Params → PySem.W.Frag} {CX : World → CXT} {x : Str} (names : List String)
    (hn : l.most = some n) (hn2 : n ≤ sizeLine) (hdf : d.params.defaults = []) (hr : Room k callerA) (hrec : ∀ nm ∈ names, ((recsOf q).any fun e => e.name == Str.ofString nm) = true) (hY : ∀ (w : World) (h : Heap), YP w h → (K w.params).In h)
    (F : ∀ (w : World) (mg : Str → Option Value) (fa : Addr) (h : Heap), YP w h → (K w.params).In h → h.Ns mainGlobals mg → mg d.name = some (.ref fa) → (∀ nm ∈ names, TabAt mg h (Str.ofString nm)) → LamX.LawAtS l w (K w.params) (CX w) k n x mg fa h)
    (hCX : ∀ (w : World) (H : Hp) (s : Shared) (e : Value) (s' : Shared), CX w [] H s (fun _ _ _ => False) e s' → False) :
    PySem.W.WalkO q loose XP YP l.row.toRowW d [] (fun f vs => PySem.call f vs) := by
  refine Att.attach_callB hn hdf fun w s₀ s₁ mg mb fa o pm cd doc a vs ns G Y ho hd hcd hmg hobj hints hlen hbits hg => ?_
  have KX := hY w _ Y
  obtain ⟨fd, cs, sp, hT, nT, C, hb, hsp, hF⟩ := F w mg fa _ Y KX G.T.g hmg fun nm hnm => by
    obtain ⟨dL, hm, hn1⟩ := List.any_eq_true.mp (hrec nm hnm)
    have hn3 : dL.name = Str.ofString nm := beq_iff_eq.mp hn1
    obtain ⟨a', o', fd', c', P', h1, h2, h3, h4, h5, h6⟩ := G.T.tab dL hm
    rw [hn3] at h1
    exact ⟨a', o', fd', c', P', h1, h2, h3, h4, PySem.W.CodeHd.of h5 h6, h6.2⟩
  exact LamX.law_callTs KX G.T.g G.T.b G.T.builtins G.T.nolimit hg hT nT C G.T.bmain hobj hints (Nat.le_trans hlen hn2) hr hF hb (fun H hH hS => hsp H a ns hlen hbits hH hS) fun H e s' => hCX w H s₁ e s'
/-- a code object's table by what is written of it -/
def TabIn (K : PySem.W.Frag) (c P : Addr) : Prop := (∃ e dd vs sl, K.lookup c = some ⟨e, dd, .fields vs, sl⟩ ∧ vs[11]? = some (.ref P)) ∧ K.lookup P = none
omit [Tabs] in
theorem tabIn_mk {K : PySem.W.Frag} {c P : Addr} {e : Value} {dd : Option Addr} {vs : Array Value} {sl : Array (Option Value)} (h : K.lookup c = some ⟨e, dd, .fields vs, sl⟩) (h2 : vs[11]? = some (.ref P)) (h3 : K.lookup P = none) : TabIn K c P := ⟨⟨e, dd, vs, sl, h, h2⟩, h3⟩
omit [Tabs] in
theorem tab_facts {K : PySem.W.Frag} {h : Heap} {mg : Str → Option Value} {x : Str} {st : Stmt} {f c P : Addr} {fd : FuncData} (X : K.In h) (F : L2.Fun K x x st f fd) (g : mg x = some (.ref f)) (hc : fd.code = .ref c) (u : TabIn K c P) (T : TabAt mg h x) :
    K.lookup P = none ∧ PySem.W.CodeHd h c P ∧ h.get? P = some { cls := .none, data := .fields #[] } := by
  obtain ⟨a, o, fd2, c2, P2, h1, h2, h3, h4, h5, h6⟩ := T
  rw [g] at h1
  cases h1
  obtain ⟨oc, od, kV, doc, pm, an, cdv, ct, osl, efd, lk, _⟩ := F.ex
  rw [X _ _ lk] at h2
  cases h2
  cases h3
  rw [hc] at h4
  cases h4
  obtain ⟨⟨e, dd, vs, sl, q1, q2⟩, q3⟩ := u
  have q4 := X _ _ q1
  obtain ⟨o, vs2, file, tf, flags, tg, inF, text, tt, e1, r1, r2, r3, r4⟩ := id h5
  rw [q4] at e1
  cases e1
  cases r2
  rw [q2] at r3
  cases r3
  exact ⟨q3, h5, h6⟩
end Ew
end

section
set_option Elab.async false
set_option linter.all false
set_option maxRecDepth 100000
set_option maxHeartbeats 4000000
/-! EwR: min, max of lists of ints; sorted backwards. -/
namespace Ew
open PySem PySem.Spec PyProof.Rows L2 Srt SrtO SrtR
variable [Tabs]
section
variable {K : PySem.W.Frag} {X : Cx} {e : Expr} {es : List Expr} {m : XE} {mas : XA} {pos p kpos : Pos} {kn : Nat} {kp : Pos}
theorem me_minL (hm : X.mg "min" = none) (ha : MA X (e :: es) mas) (hc : X.calm = true := by rfl) (hg : Gl X "min" := by rfl) (he : starEach (e :: es) X.env = (false, eval e X.env) :: starEach es X.env := by rfl) (hpl : (backTo pos (starEach es X.env)).any (·.1) = false := by rfl) :
    ME X (.Call (.Name "min" p) (e :: es) [] pos) (xArgs fMinL mas) := me_b (cr_min hc) (fun r w h H xs v us Q R V e C => by
  unfold fMinL at e
  split at e
  · rename_i v'
    obtain ⟨u, rfl, q⟩ := vrs1 V
    split at e
    · rename_i ys e1
      cases e2 : intsOf ys with
      | none => simp [e2] at e
      | some ns =>
        simp only [e2] at e
        cases e4 : ns.min? with
        | none => rw [e4] at e; cases e
        | some a =>
          rw [e4] at e
          simp only [Option.map_some, Option.some.injEq] at e; subst e
          obtain ⟨p, ws, rfl, sq, q2⟩ := list_sq X.K R q e1
          have e3 := ints_of q2 e2
          subst e3
          obtain ⟨h1, h2⟩ := List.min?_eq_some_iff.mp e4
          refine ⟨p, ns, rfl, sq, List.length_pos_of_mem h1, fun m hm hy => ?_⟩
          have : m = a := Int.le_antisymm (hy a h1) (h2 m hm)
          subst this
          exact C.now R (by simp only [VR])
    · cases e
  · cases e) (by decide +kernel) hm ha hg (by decide +kernel) (by decide +kernel) he hpl
theorem me_maxL (hm : X.mg "max" = none) (ha : MA X (e :: es) mas) (hc : X.calm = true := by rfl) (hg : Gl X "max" := by rfl) (he : starEach (e :: es) X.env = (false, eval e X.env) :: starEach es X.env := by rfl) (hpl : (backTo pos (starEach es X.env)).any (·.1) = false := by rfl) :
    ME X (.Call (.Name "max" p) (e :: es) [] pos) (xArgs fMaxL mas) := me_b (cr_max hc) (fun r w h H xs v us Q R V e C => by
  unfold fMaxL at e
  split at e
  · rename_i v'
    obtain ⟨u, rfl, q⟩ := vrs1 V
    split at e
    · rename_i ys e1
      cases e2 : intsOf ys with
      | none => simp [e2] at e
      | some ns =>
        simp only [e2] at e
        cases e4 : ns.max? with
        | none => rw [e4] at e; cases e
        | some a =>
          rw [e4] at e
          simp only [Option.map_some, Option.some.injEq] at e; subst e
          obtain ⟨p, ws, rfl, sq, q2⟩ := list_sq X.K R q e1
          have e3 := ints_of q2 e2
          subst e3
          obtain ⟨h1, h2⟩ := List.max?_eq_some_iff.mp e4
          refine ⟨p, ns, rfl, sq, List.length_pos_of_mem h1, fun m hm hy => ?_⟩
          have : m = a := Int.le_antisymm (h2 m hm) (hy a h1)
          subst this
          exact C.now R (by simp only [VR])
    · cases e
  · cases e) (by decide +kernel) hm ha hg (by decide +kernel) (by decide +kernel) he hpl
/-! ### sorted(xs, reverse=True) -/
def rSortedRev (K : PySem.W.Frag) : List V → List V → Hp → VK → Prop := fun vs zs H Q => ∃ (a : Addr) (ns : List Int), vs = [V.ref a] ∧ zs = [.bl true] ∧ (SqL K H a (ns.map V.int) ∨ SqT K H a (ns.map V.int)) ∧
  ∀ (ns' : List Int) (p : Addr), ns'.Perm ns → ns'.Pairwise (· ≥ ·) → H p = none → Q (.ref p) (upd H p (.lst (ns'.map V.int)))
theorem cr_sortedRevA : CallRK X (.builtin "sorted") [Str.ofString "reverse"] (rSortedRev X.K) := by
  intro pins s σ H vs zs us ws Q I r rz h
  obtain ⟨a, ns, rfl, rfl, hs, q⟩ := h
  rcases hs with hs | hs
  · exact cr_sortedRev (b := true) pins s σ H _ _ us ws Q I r rz ⟨a, ns, rfl, rfl, hs, q⟩
  · obtain rfl := Vals.ref1 r
    obtain ⟨w1, rfl, e1⟩ := vals1 rz
    obtain rfl : w1 = Value.bool true := e1
    obtain ⟨its, rv, ht, hz⟩ := I.tuple hs
    have hI := rv.ints
    have hsz : its.length ≤ sizeLine := by rw [← rv.length]; exact hz
    obtain ⟨o, g1, g2, n, g3⟩ := ht
    show wpAny (model X.prog X.w) X.A (call (.builtin "sorted") [.ref a] [(Str.ofString "reverse", .bool true)]) _ _ s
    refine call_function_entry_kw PyProof.Rows.kind_sorted PyProof.Rows.plain_sorted PyProof.Rows.entry_sorted (PyProof.Rows.args_sorted_rev _ _) ?_
    unfold Builtin.«sorted»
    refine wpAny_bind (m := checkCount "sorted" 1 1 _) (wpAny_pure ?_)
    refine wpAny_bind (wpAny_collect_seq a (T := "tuple") (.inr rfl) g1 g2 g3 (fun h' hk => ?_) (by simpa using hsz))
    have I1 : Inv X pins σ H { s with heap := h' } := I.kept (t' := s.toks) hk
    refine wpAny_bind (wpAny_newList ?_ (by simpa using hsz))
    have hoL : (h'.push (seqObj "list" its.toArray 0)).get? h'.objs.size = some (seqObj "list" its.toArray 0) := Heap.get?_push_size _ rfl
    show wpAny _ _ _ _ _ { s with heap := h'.push (seqObj "list" its.toArray 0) }
    refine wpAny_bind (wpAny_holding (wpAny_call_entry_kw PyProof.Rows.slot_list_sort ⟨_, hoL, rfl⟩ PyProof.Rows.entry_list_sort ?_ (PyProof.Rows.args_list_sort_rev _ _)))
    refine SrtR.list_sort_ordR (s := { s with heap := h'.push (seqObj "list" its.toArray 0) }) SrtO.swo_int hoL hsz (fun h2 => SrtO.ints_sortable hI h2) fun out h1 h2 => ⟨_, rfl, ?_⟩
    obtain ⟨ns', k1, k2, k3⟩ := SrtR.ints_outR (b := true) hI h1 h2
    obtain ⟨e', he'⟩ := PyProof.Rows.sortedHeap_at (vs := its) (out := out.toArray.reverse) hoL
    have hlen : (ns'.map V.int).length ≤ sizeLine := by
      rw [List.length_map, k2.length_eq]
      rw [List.length_map] at hz
      exact hz
    have e0 : out.toArray.reverse.toList.toArray = out.toArray.reverse := by rw [Array.toArray_toList]
    refine wpAny_pure ⟨_, rfl, .ref h'.objs.size, upd H h'.objs.size (.lst (ns'.map V.int)), I1.laid (t' := s.toks) (fun b u e => ?_) (Nat.le_refl _) ⟨hlen, out.toArray.reverse.toList, e', vals_of_ints k1, by rw [e0]; exact he'⟩, rfl, q _ _ k2 k3 (I1.hok.fresh (Nat.le_refl _))⟩
    have hb : b ≠ h'.objs.size := Nat.ne_of_lt (Heap.lt_size e)
    rw [PyProof.Rows.sortedHeap_old hb (Nat.lt_succ_of_lt (Heap.lt_size e) |> fun z => by simpa using z)]
    exact Heap.get?_push_of_some _ e
theorem mf_sortRev (hm : X.mg "sorted" = none) (he : ME X e m) (hg : Gl X "sorted" := by rfl)
    (hs : backTo pos (starEach [e] X.env) = (false, eval e X.env) :: backTo pos (starEach [] X.env) := by rfl) (hs1 : starEach [e] X.env = (false, eval e X.env) :: starEach [] X.env := by rfl) (hpl : (backTo pos (starEach [e] X.env)).any (·.1) = false := by rfl)
    (hall : (backToKw pos (keywordEach [⟨some "reverse", .Constant (.bool true) kn kp, kpos⟩] X.env)).all (·.1.isSome) = true := by rfl) (hnone : (backToKw pos (keywordEach [⟨some "reverse", .Constant (.bool true) kn kp, kpos⟩] X.env)).any (·.1.isNone) = false := by rfl) (hks : (backToKw pos (keywordEach [⟨some "reverse", .Constant (.bool true) kn kp, kpos⟩] X.env)).filterMap (·.1) = [Str.ofString "reverse"] := by rfl) :
    MF X (.Call (.Name "sorted" p) [e] [⟨some "reverse", .Constant (.bool true) kn kp, kpos⟩] pos) (xUn fSortR m) := PE.wk (pe_callBK cr_sortedRevA hg hm (by decide +kernel) (pa_cons he pa_nil hs1) (pk_cons pe_bl pk_nil) (by decide +kernel) (by decide +kernel) hs hpl hall hnone hks) fun z H Q ⟨r, w, s, h, v, h', R, S, e, C⟩ => by
  obtain ⟨x, e1, e2⟩ := xUn_at e
  refine ⟨r, w, s, h, x, h', R, S, e1, fun r1 u1 H1 F1 R1 V1 => ?_⟩
  unfold fSortR at e2
  split at e2
  · rename_i ys e3
    cases e4 : intsOf ys with
    | none => rw [e4] at e2; cases e2
    | some ns =>
      rw [e4] at e2
      simp only [Option.map_some, Option.some.injEq] at e2
      subst e2
      obtain ⟨a, ws, rfl, sq, q2⟩ := seq_sq X.K R1 V1 e3
      have e5 := ints_of q2 e4
      subst e5
      refine ⟨a, ns, rfl, rfl, sq, fun ys l hy hs hl => ?_⟩
      have ey : ys.reverse = sortI ns := PySem.W.os_sorted_mergeSort ((List.reverse_perm _).trans hy) (List.pairwise_reverse.mpr hs)
      have ey2 : ys = (sortI ns).reverse := by rw [← ey, List.reverse_reverse]
      subst ey2
      exact (C.fwd F1 R1).lst R1 hl (VRs.ints _)
  · cases e2
end
end Ew
end

section
set_option Elab.async false
set_option linter.all false
set_option maxRecDepth 100000
set_option maxHeartbeats 4000000
/-! EwV: max(d.values()), ints. -/
namespace Ew
open PySem PySem.Spec PyProof.Rows L2
variable [Tabs]
section
variable {K : PySem.W.Frag} {X : Cx} {o : Expr} {mo : XE} {pos p apos mpos : Pos}
theorem vals_ints {r w : List Addr} {H : Hp} : ∀ {kvs : List (MK × MV)} {us : List (Key × V)} {ns : List Int}, VRk K r w H kvs us → intsOf (kvs.map (·.2)) = some ns → us.map (·.2) = ns.map V.int
  | [], us, ns, q, e => by
    simp only [VRk] at q; subst q
    simp only [List.map_nil, intsOf, Option.some.injEq] at e; subst e; rfl
  | (k, v) :: kvs, us, ns, q, e => by
    simp only [VRk] at q
    obtain ⟨u, t, rfl, q1, q2⟩ := q
    cases v <;> simp only [List.map_cons, intsOf, reduceCtorEq] at e
    rename_i i
    cases e1 : intsOf (kvs.map (·.2)) with
    | none => rw [e1] at e; cases e
    | some ms =>
      rw [e1] at e
      simp only [Option.map_some, Option.some.injEq] at e
      subst e
      simp only [VR] at q1
      subst q1
      simp only [List.map_cons, vals_ints q2 e1]
def tMaxVals (td : TE) : TE := fun σ H Q => td σ H fun x H1 => ∃ a kvs is, x = V.ref a ∧ Rd H1 a (.dK kvs) ∧ kvs.map (·.2) = is.map V.int ∧ is ≠ [] ∧ ∀ m, m ∈ is → (∀ j ∈ is, j ≤ m) → Q (.int m) H1
theorem pe_maxVals {td : TE} (hc : X.calm = true) (hg : Gl X "max") (hm : X.mg "max" = none) (hd : PE X o td) (hbase : attributeBase o "values" X.env (eval o X.env) = eval o X.env := by rfl) (hline : (apos.endLine == mpos.line) = true := by rfl)
    (hse : starEach [Expr.Call (.Attribute o "values" apos) [] [] mpos] X.env = [(false, eval (Expr.Call (.Attribute o "values" apos) [] [] mpos) X.env)] := by rfl) :
    PE X (.Call (.Name "max" p) [.Call (.Attribute o "values" apos) [] [] mpos] [] pos) (tMaxVals td) := by
  refine ⟨fun pins s σ H Q I h => ?_⟩
  refine wpAny_Call_Name_kw (ld_blt I hg hm (u := .builtin "max") (by first | rfl | decide +kernel) ?_ (by first | decide +kernel | decide) (by first | decide +kernel | decide))
  rw [hse]
  refine PySem.callWith_builtin1 (wpAny_Call_method0_late hbase hline (thn (hd.run pins s σ H _ I h) fun v s1 ⟨x, H1, I1, r1, a, kvs, is, ex, ha, hv, hne, q⟩ => ?_))
  subst ex
  obtain rfl : v = Value.ref a := r1
  obtain ⟨_, hsys, vs, rel, dof⟩ := dk_rd I1.hok ha
  obtain ⟨ep, dat⟩ := dof.dictAt
  have dat' := dat
  obtain ⟨ob, es, ho, ex, hdat, hko, hpr, hnd⟩ := dat'
  refine ⟨"dict", "dict.values", F.plainAttrs_dict, F.slot_dict_values, F.type_dict_values, ⟨ob, ho, ex.1⟩, fun b e => ?_, Calls.callWith_builtin rfl (PySem.evalArgs_none ?_)⟩
  · cases e
    exact ⟨ob, ho, ex.2.1⟩
  refine call_meetsIn F.slot_dict_values ⟨ob, ho, ex.1⟩ F.entry_dict_values (F.args_dict_values_1 _) (meets_dict_values (mixKind X.prog X.w) a hsys) ⟨⟨vs, dof⟩, ?_⟩
  have k1 : ∀ b u, s1.heap.get? b = some u → (s1.heap.push { cls := .type "dict_values", data := .fields #[.ref a] }).get? b = some u := fun b u e => Heap.get?_push_of_some _ e
  have dat1 : (s1.heap.push { cls := .type "dict_values", data := .fields #[.ref a] }).DictAt (mixKind X.prog X.w) a vs ep := dat.keep k1
  have hlv : vs.length = is.length := by
    have e1 := congrArg List.length hv
    rw [List.length_map, List.length_map] at e1
    rw [← e1]
    exact (KV.length rel).symm
  have hlen : 0 < vs.length := by
    rw [hlv]
    exact List.length_pos_iff.mpr hne
  have hval : ∀ (i : Nat) (v : Value), (∃ k, vs[i]? = some (k, v)) → ∃ t, v = Value.int (is.getD i 0) t := fun i v ⟨k, hk⟩ => by
    obtain ⟨x, h1, h2⟩ := KV.at' rel hk
    have e1 : (kvs.map (·.2))[i]? = some x := by rw [List.getElem?_map, h1] <;> rfl
    rw [hv, List.getElem?_map] at e1
    obtain ⟨j, hj, e2⟩ := Option.map_eq_some_iff.mp e1
    subst e2
    obtain ⟨t, e3⟩ := h2
    refine ⟨t, ?_⟩
    rw [e3, List.getD_eq_getElem?_getD, hj] <;> rfl
  refine call_max_walk (wpAny_pyIter_values (v := s1.heap.objs.size) (d := a) ⟨_, Heap.get?_push_size _ rfl, rfl, rfl⟩ dat1 ?_)
  have hlt : a < s1.heap.objs.size := Heap.lt_size ho
  have hsz : (s1.heap.push { cls := .type "dict_values", data := .fields #[.ref a] }).objs.size = s1.heap.objs.size + 1 := Heap.size_push _ _
  refine ⟨_, _, _, _, _, _, _, rfl, Walks.dictValues (knd := mixKind X.prog X.w) (A := X.A.in1) (I.ok.hd hc) (s1.heap.push { cls := .type "dict_values", data := .fields #[.ref a] }).objs.size a (by rw [hsz]; exact Nat.ne_of_lt (Nat.lt_succ_of_lt hlt)) vs ep,
    ⟨⟨_, Heap.get?_push_size _ rfl, rfl, rfl⟩, dat1.keep fun b u e => Heap.get?_push_of_some _ e⟩, fun b hb => ?_, hlen, CmpOf.ints_gt (fun i => is.getD i 0) hval, fun v h' tk hP hk => ?_⟩
  · show b < ((s1.heap.push _).push _).objs.size
    rw [Heap.size_push, Heap.size_push]
    rw [hsz] at hb
    rcases List.mem_cons.mp hb with e | hb
    · rw [e]
      exact Nat.lt_succ_self _
    · have e : b = a := List.mem_singleton.mp hb
      rw [e]
      exact Nat.lt_succ_of_lt (Nat.lt_succ_of_lt hlt)
  · obtain ⟨t, rfl⟩ := hval _ v hP
    obtain ⟨b1, b2⟩ := argBest_gt (fun i => is.getD i 0) (vs.length - 1)
    refine ⟨.int _, H1, I1.kept (t' := tk) fun b u e => hk b u (fun hmem => ?_) (Heap.get?_push_of_some _ (k1 b u e)), ⟨t, rfl⟩, q _ ?_ fun j hj => ?_⟩
    · have e1 : b = (s1.heap.push { cls := .type "dict_values", data := .fields #[.ref a] }).objs.size := List.mem_singleton.mp hmem
      have e2 := Heap.lt_size e
      rw [hsz] at e1
      rw [e1] at e2
      exact absurd e2 (Nat.not_lt.mpr (Nat.le_succ _))
    · have hb : argBest (fun i j => decide (is.getD i 0 > is.getD j 0)) (vs.length - 1) < is.length := by omega
      rw [List.getD_eq_getElem?_getD, List.getElem?_eq_getElem hb]
      exact List.getElem_mem hb
    · obtain ⟨i, hi, e⟩ := List.mem_iff_getElem.mp hj
      have e2 : is.getD i 0 = j := by rw [List.getD_eq_getElem?_getD, List.getElem?_eq_getElem hi, ← e] <;> rfl
      rw [← e2]
      exact b2 i (by omega)
theorem me_maxV (hm : X.mg "max" = none) (ho : ME X o mo) (hc : X.calm = true := by rfl) (hg : Gl X "max" := by rfl) (hbase : attributeBase o "values" X.env (eval o X.env) = eval o X.env := by rfl) (hline : (apos.endLine == mpos.line) = true := by rfl)
    (hse : starEach [Expr.Call (.Attribute o "values" apos) [] [] mpos] X.env = [(false, eval (Expr.Call (.Attribute o "values" apos) [] [] mpos) X.env)] := by rfl) :
    ME X (.Call (.Name "max" p) [.Call (.Attribute o "values" apos) [] [] mpos] [] pos) (xUn fMaxV mo) := PE.wk (pe_maxVals hc hg hm ho hbase hline hse) fun z H Q ⟨r, w, s, h, v, h', R, S, e, C⟩ => by
  obtain ⟨x, e1, e2⟩ := xUn_at e
  refine ⟨r, w, s, h, x, h', R, S, e1, fun r1 u1 H1 F1 R1 V1 => ?_⟩
  unfold fMaxV at e2
  split at e2
  · rename_i kvs e3
    cases e4 : intsOf (kvs.map (·.2)) with
    | none => rw [e4] at e2; cases e2
    | some ns =>
      simp only [e4] at e2
      cases e5 : ns.max? with
      | none => rw [e5] at e2; cases e2
      | some a =>
        rw [e5] at e2
        simp only [Option.map_some, Option.some.injEq] at e2
        subst e2
        obtain ⟨d, us, rfl, rd, q⟩ := dictK_rd R1 V1 e3
        obtain ⟨h1, h2⟩ := List.max?_eq_some_iff.mp e5
        refine ⟨d, us, ns, rfl, rd, vals_ints q e4, fun e => (by rw [e] at h1; cases h1), fun m hm hy => ?_⟩
        have : m = a := Int.le_antisymm (h2 m hm) (hy a h1)
        subst this
        exact C.fwd F1 R1 |>.now R1 (by simp only [VR])
  · cases e2
end
/-! ### x in a list of data of any depth -/
section
variable {K : PySem.W.Frag} {X : Cx} {a b : Expr} {ma mb : XE} {pos : Pos}
theorem toPs_any (x : MV) : ∀ (ys : List MV), isD 59 x = true → isDs 59 ys = true → ((toPs ys).any fun z => PyData.eqv z (toP x)) = ys.any fun y => eqD y x
  | [], _, _ => rfl
  | y :: ys, hx, h => by
    simp only [isDs, Bool.and_eq_true] at h
    rw [toPs, List.any_cons, List.any_cons, toPs_any x ys hx h.2, toP_eqv y x 59 h.1 hx]
theorem c_inD {k : Nat} (hr : Room k X.A) (ha : ME X a ma) (hb : ME X b mb) (hm : behindInMarks .In b = false := by rfl) : ME X (.Compare a [.In] [b] pos) (xOp opInD ma mb) ∧ MT X (.Compare a [.In] [b] pos) (xB (xOp opInD ma mb)) := c_cmp (op_inD (by have := hr.un; omega)) (fun r w h H x y v u1 u2 Q R V1 V2 e C => by
  unfold opInD at e
  split at e
  · rename_i ys e1
    split at e
    · rename_i d
      simp only [Bool.and_eq_true] at d
      obtain ⟨⟨d1, d2⟩, d3⟩ := d
      simp only [Option.some.injEq] at e
      subst e
      have dy : isD 60 (rdM h y) = true := by rw [e1]; simp only [isD]; exact d3
      have g := rd_dp X.K R V2 dy
      have g2 := shaped_of dy
      rw [e1] at g g2
      exact ⟨toP x, toPs ys, toP_dp X.K x u1 60 d1 V1, g, shaped_of d1, g2, C.now R (by simp only [VR]; rw [toPs_any x ys d2 d3])⟩
    · cases e
  · cases e) ha hb hm
theorem c_notinD {k : Nat} (hr : Room k X.A) (ha : ME X a ma) (hb : ME X b mb) (hm : behindInMarks .NotIn b = false := by rfl) : ME X (.Compare a [.NotIn] [b] pos) (xOp opNotInD ma mb) ∧ MT X (.Compare a [.NotIn] [b] pos) (xB (xOp opNotInD ma mb)) := c_cmp (op_notInD (by have := hr.un; omega)) (fun r w h H x y v u1 u2 Q R V1 V2 e C => by
  unfold opNotInD at e
  split at e
  · rename_i ys e1
    split at e
    · rename_i d
      simp only [Bool.and_eq_true] at d
      obtain ⟨⟨d1, d2⟩, d3⟩ := d
      simp only [Option.some.injEq] at e
      subst e
      have dy : isD 60 (rdM h y) = true := by rw [e1]; simp only [isD]; exact d3
      have g := rd_dp X.K R V2 dy
      have g2 := shaped_of dy
      rw [e1] at g g2
      exact ⟨toP x, toPs ys, toP_dp X.K x u1 60 d1 V1, g, shaped_of d1, g2, C.now R (by simp only [VR]; rw [toPs_any x ys d2 d3])⟩
    · cases e
  · cases e) ha hb hm
end
/-! ### d.clear() -/
section
variable {K : PySem.W.Frag} {X : Cx} {o : Expr} {mo : XE} {pos p apos : Pos}
theorem me_dclear (ho : ME X o mo) (hbase : attributeBase o "clear" X.env (eval o X.env) = eval o X.env := by rfl) (hline : (apos.endLine == pos.line) = true := by rfl) :
    ME X (.Call (.Attribute o "clear" apos) [] [] pos) (xClearD mo) := PE.wk (pe_dclear ho hbase hline) fun z H Q ⟨r, w, s, h, v, h', R, S, e, C⟩ => by
  unfold xClearD at e
  split at e
  · rename_i n h1 e1
    split at e
    · rename_i kvs e2
      simp only [Option.some.injEq, Prod.mk.injEq] at e
      obtain ⟨rfl, rfl⟩ := e
      refine ⟨r, w, s, h, _, h1, R, S, e1, fun r1 u1 H1 F1 R1 V1 => ?_⟩
      have V1' := V1
      simp only [VR] at V1'
      obtain ⟨a, rfl, hn⟩ := V1'
      have hc := R1.at_ n a _ hn e2
      simp only [CRel] at hc
      obtain ⟨us, hd, q⟩ := hc
      refine ⟨.inr (.inr (.inl ⟨rfl, .inl ⟨_, hd⟩⟩)), a, us, rfl, rfl, hd, ?_⟩
      refine (C.fwd F1 R1) r1 _ _ (Fwd.put hn _ (fun _ _ z => by rw [hd] at z; cases z)) (R1.put hn (c := .dK []) ?_) (by simp only [VR])
      simp only [CRel]
      exact ⟨_, upd_same, by simp only [VRk]⟩
    · cases e
  · cases e
end
/-! ### for x, y in zip(xs, ys), lists -/
section
variable {K : PySem.W.Frag} {X : Cx} {e e2 : Expr} {m m2 : XE} {pos p tpos : Pos}
theorem zipM_at (xs ys : List MV) (i : Nat) (hl : xs.length = ys.length) (hi : i < xs.length) : (zipM xs ys)[i]? = some (.tup [xs[i], ys[i]'(by omega)]) := by
  unfold zipM
  rw [List.getElem?_map, List.getElem?_eq_getElem (by rw [List.length_zip]; omega), Option.map_some, List.getElem_zip]
theorem zipM_len (xs ys : List MV) (hl : xs.length = ys.length) : (zipM xs ys).length = xs.length := by unfold zipM; rw [List.length_map, List.length_zip]; omega
theorem walks_zip (K : PySem.W.Frag) {r w : List Addr} {H : Hp} {h : MH} {a b : Addr} {xs ys : List MV} (R : Rel K r w h H) (hl : xs.length = ys.length) (V : VR K r w H (.lst xs) (.ref a)) (V2 : VR K r w H (.lst ys) (.ref b)) : Walks K (Itz K a b) (zipM xs ys) r w H := by
  have get : ∀ (xs : List MV) (a : Addr), VR K r w H (.lst xs) (.ref a) → ∀ r1 w1 H1 h1, Stp r w H r1 w1 H1 → Rel K r1 w1 h1 H1 → ∃ us, SqL K H1 a us ∧ VRs K r1 w1 H1 xs us := fun xs a V r1 w1 H1 h1 F R1 => by
    obtain ⟨p, us, ep, sq, q⟩ := list_sq K R1 (VR.map F _ _ V) rfl
    cases ep
    exact ⟨us, sq, q⟩
  refine ⟨fun i r1 w1 H1 h1 _ F R1 hi => ?_, fun i r1 w1 H1 h1 _ F R1 hi => ?_⟩
  · obtain ⟨us, sq, q⟩ := get xs a V r1 w1 H1 h1 F R1
    obtain ⟨us2, sq2, q2⟩ := get ys b V2 r1 w1 H1 h1 F R1
    rw [zipM_len _ _ hl] at hi
    have e1 : xs[i]? = some xs[i] := List.getElem?_eq_getElem hi
    have e2 : ys[i]? = some (ys[i]'(by omega)) := List.getElem?_eq_getElem (by omega)
    obtain ⟨u, p1, p2⟩ := VRs.get q e1
    obtain ⟨u2, p3, p4⟩ := VRs.get q2 e2
    refine ⟨⟨us, us2, u, u2, sq, sq2, p1, p3⟩, fun x H2 ⟨T, y1, y2, ex, hT, eH, hx, hy⟩ => ?_⟩
    subst eH ex
    have z1 := hx us sq
    rw [p1] at z1
    cases z1
    have z2 := hy us2 sq2
    rw [p3] at z2
    cases z2
    refine ⟨Fwd.new r1 hT, R1.new hT, _, zipM_at xs ys i hl hi, VR.newTup R1 hT ?_⟩
    simp only [VRs]
    exact ⟨_, _, rfl, p2, _, [], rfl, p4, rfl⟩
  · obtain ⟨us, sq, q⟩ := get xs a V r1 w1 H1 h1 F R1
    obtain ⟨us2, sq2, q2⟩ := get ys b V2 r1 w1 H1 h1 F R1
    exact ⟨us, us2, sq, sq2, .inl (by rw [← VRs.length q, ← hi, zipM_len _ _ hl]; exact Nat.le_refl _)⟩
theorem mi_zipL {elts : List Expr} {kk : Nat} (hm : X.mg "zip" = none) (he : ME X e m) (he2 : ME X e2 m2) (hg : Gl X "zip" := by rfl) (hs : starEach [e, e2] X.env = (false, eval e X.env) :: starEach [e2] X.env := by rfl) (hs2 : starEach [e2] X.env = (false, eval e2 X.env) :: starEach [] X.env := by rfl) (hpl : (backTo pos (starEach [e2] X.env)).any (·.1) = false := by rfl) : MII X (.Tuple elts kk tpos) (.Call (.Name "zip" p) [e, e2] [] pos) (iZipL m m2) :=
  PI.wk (RZ.pi_zipA hg hm (pa_cons he (pa_cons he2 pa_nil hs2) hs) hs hpl) fun z H Q ⟨r, w, s, h, it, h', R, S, e, C⟩ => by
  unfold iZipL at e
  split at e
  · rename_i xs h1 e1
    split at e
    · rename_i ys h2 e2
      split at e
      · rename_i hl
        simp only [Option.some.injEq, Prod.mk.injEq] at e
        obtain ⟨rfl, rfl⟩ := e
        refine ⟨r, w, s, h, _, h1, R, S, e1, fun r1 u H1 F1 R1 V1 => ⟨r1, w, s, h1, _, h2, R1, S.fwd F1, e2, fun r2 u2 H2 F2 R2 V2 => ?_⟩⟩
        have V1' := VR.fwd F2 _ _ V1
        obtain ⟨a, us, rfl, sq, q⟩ := list_sq X.K R2 V1' rfl
        obtain ⟨b, us2, rfl, sq2, q2⟩ := list_sq X.K R2 V2 rfl
        exact ⟨a, b, us, us2, rfl, .inl ⟨sq, sq2, (C r2 _ H2 (F1.tr R1 F2) R2) (walks_zip X.K R2 hl V1' V2)⟩⟩
      · cases e
    · cases e
  · cases e
end
/-! ### dict(d) -/
section
variable {X : Cx} {e : Expr} {es : List Expr} {mas : XA} {pos p : Pos}
theorem mf_dictD (hm : X.mg "dict" = none) (ha : MA X (e :: es) mas) (hg : Gl X "dict" := by rfl) (he : starEach (e :: es) X.env = (false, eval e X.env) :: starEach es X.env := by rfl) (hpl : (backTo pos (starEach es X.env)).any (·.1) = false := by rfl) :
    MF X (.Call (.Name "dict" p) (e :: es) [] pos) (xArgs fDictD mas) := mf_t call_dictD (fun r w h H xs v us Q R V e C => by
  unfold fDictD at e
  split at e
  · rename_i v'
    obtain ⟨u, rfl, q⟩ := vrs1 V
    cases e2 : dictK h v' with
    | none => rw [e2] at e; cases e
    | some kvs =>
      rw [e2] at e
      simp only [Option.map_some, Option.some.injEq] at e
      subst e
      obtain ⟨d, us, rfl, rd, q2⟩ := dictK_rd R q e2
      refine ⟨d, us, rfl, rd, fun p hp => ?_⟩
      refine C r p _ (Fwd.new r hp) hp (R.hold hp) ?_
      simp only [VF]
      exact ⟨_, upd_same, VRk.map (Stp.hold R hp) _ _ q2⟩
  · cases e) (by decide +kernel) hm ha hg (by decide +kernel) (by decide +kernel) he hpl
end
end Ew
end

section
set_option Elab.async false
set_option linter.all false
set_option maxRecDepth 100000
set_option maxHeartbeats 4000000
/-! EwY: sorted of (int, row) and of rows; enumerate of a list. -/
namespace Ew
open PySem PySem.Spec PyProof.Rows L2 PySem.W
variable [Tabs]
/-! ### the order -/
theorem toPs_ints : ∀ {xs : List MV} {r : List Int}, intsOf xs = some r → toPs xs = r.map PyData.int ∧ isDs 57 xs = true
  | [], r, e => by simp only [intsOf, Option.some.injEq] at e; subst e; exact ⟨rfl, rfl⟩
  | x :: xs, r, e => by
    cases x <;> simp only [intsOf, reduceCtorEq] at e
    rename_i i
    cases e1 : intsOf xs with
    | none => rw [e1] at e; cases e
    | some ms =>
      rw [e1] at e
      simp only [Option.map_some, Option.some.injEq] at e
      subst e
      obtain ⟨a, b⟩ := toPs_ints e1
      exact ⟨by simp only [toPs, toP, a, List.map_cons], by simp only [isDs, isD, b, Bool.and_self]⟩
theorem eqvAll_ints : ∀ q r : List Int, PyData.eqvAll (q.map .int) (r.map .int) = decide (q = r)
  | [], [] => by simp [PyData.eqvAll]
  | [], _ :: _ => by simp [PyData.eqvAll]
  | _ :: _, [] => by simp [PyData.eqvAll]
  | x :: q, y :: r => by
    rw [List.map_cons, List.map_cons, eqv_all_cons, eqvAll_ints q r]
    simp only [PyData.eqv]
    rw [Bool.eq_iff_iff]
    simp
/-- what such an item reads as -/
def zData : Bool → List Int → PyData
  | true, a :: r => .tuple [.int a, .tuple (r.map .int)]
  | _, k => .tuple (k.map .int)
theorem keyZ_data {x : MV} {f : Bool} {k : List Int} (e : keyZ x = some (f, k)) : toP x = zData f k ∧ k ≠ [] ∧ isD 59 x = true := by
  unfold keyZ at e
  split at e
  · rename_i a zs
    cases e1 : intsOf zs with
    | none => rw [e1] at e; cases e
    | some r =>
      rw [e1] at e
      simp only [Option.map_some, Option.some.injEq, Prod.mk.injEq] at e
      obtain ⟨rfl, rfl⟩ := e
      obtain ⟨h1, h2⟩ := toPs_ints e1
      exact ⟨by simp only [toP, toPs, h1, zData], by simp, by simp only [isD, isDs, h2, Bool.and_self]⟩
  · rename_i a zs
    cases e1 : intsOf zs with
    | none => rw [e1] at e; cases e
    | some r =>
      rw [e1] at e
      simp only [Option.map_some, Option.some.injEq, Prod.mk.injEq] at e
      obtain ⟨rfl, rfl⟩ := e
      obtain ⟨h1, h2⟩ := toPs_ints e1
      exact ⟨by simp only [toP, toPs, h1, zData], by simp, by simp only [isD, isDs, h2, Bool.and_self]⟩
  · rename_i y ys _ _
    cases e1 : intsOf (y :: ys) with
    | none => rw [e1] at e; cases e
    | some r =>
      rw [e1] at e
      simp only [Option.map_some, Option.some.injEq, Prod.mk.injEq] at e
      obtain ⟨rfl, rfl⟩ := e
      obtain ⟨h1, h2⟩ := toPs_ints e1
      refine ⟨by simp only [toP, h1, zData], fun z => ?_, isD_mono 58 59 _ (by omega) (by simp only [isD]; exact h2)⟩
      subst z
      have := congrArg List.length h1
      simp [toPs] at this
  · rename_i y ys
    cases e1 : intsOf (y :: ys) with
    | none => rw [e1] at e; cases e
    | some r =>
      rw [e1] at e
      simp only [Option.map_some, Option.some.injEq, Prod.mk.injEq] at e
      obtain ⟨rfl, rfl⟩ := e
      obtain ⟨h1, h2⟩ := toPs_ints e1
      refine ⟨by simp only [toP, h1, zData], fun z => ?_, isD_mono 58 59 _ (by omega) (by simp only [isD]; exact h2)⟩
      subst z
      have := congrArg List.length h1
      simp [toPs] at this
  · cases e
theorem alike_tups (q r : List Int) : alike (.tuple (q.map .int)) (.tuple (r.map .int)) = true := by simp only [alike]; exact alike_ints q r
theorem z_alike (f : Bool) {k l : List Int} (hk : k ≠ []) (hl : l ≠ []) : alike (zData f k) (zData f l) = true := by
  cases k with
  | nil => exact absurd rfl hk
  | cons a r =>
    cases l with
    | nil => exact absurd rfl hl
    | cons b q =>
      cases f with
      | true =>
        show alike (.tuple [.int a, .tuple (r.map .int)]) (.tuple [.int b, .tuple (q.map .int)]) = true
        have := alike_ints r q
        simp [alike, alikeAll, this]
      | false => exact alike_tups (a :: r) (b :: q)
theorem dataLt_rws (q r : List Int) : dataLt (.tuple (q.map .int)) (.tuple (r.map .int)) = decide (q < r) := by
  rw [dataLt_tuple]; exact dataLt_ints q r
theorem z_lt (f : Bool) {k l : List Int} (hk : k ≠ []) (hl : l ≠ []) : dataLt (zData f k) (zData f l) = decide (k < l) := by
  cases k with
  | nil => exact absurd rfl hk
  | cons a r =>
    cases l with
    | nil => exact absurd rfl hl
    | cons b q =>
      cases f with
      | true =>
        show dataLt (.tuple [.int a, .tuple (r.map .int)]) (.tuple [.int b, .tuple (q.map .int)]) = _
        rw [dataLt_pair (by simp [alike]) (alike_tups r q), dataLt_int, dataLt_rws]
        have e2 : PyData.eqv (.tuple (r.map .int)) (.tuple (q.map .int)) = decide (r = q) := by simp only [PyData.eqv]; exact eqvAll_ints r q
        rw [e2]
        simp only [PyData.eqv, beq_iff_eq]
        by_cases h1 : a = b <;> by_cases h2 : r = q <;> simp [h1, h2, List.cons_lt_cons_iff]
      | false => exact dataLt_rws (a :: r) (b :: q)
theorem not_lt_rows (k l : List Int) : (!decide (l < k)) = decide (k ≤ l) := by
  by_cases h : l < k
  · have h' : ¬ k ≤ l := fun q => List.not_lt.mpr q h
    simp [h, h']
  · have h' : k ≤ l := List.not_lt.mp h
    simp [h, h']
/-! ### the items in threes -/
theorem threes {K : PySem.W.Frag} {r w : List Addr} {H : Hp} {f : Bool} : ∀ {xs : List MV} {us : List V} {ks : List (List Int)}, VRs K r w H xs us → keysZ f xs = some ks → ∃ T : List (List Int × MV × V), T.map (·.1) = ks ∧ T.map (·.2.1) = xs ∧ T.map (·.2.2) = us ∧ ∀ t ∈ T, VR K r w H t.2.1 t.2.2 ∧ keyZ t.2.1 = some (f, t.1)
  | [], us, ks, q, e => by
    simp only [VRs] at q
    simp only [keysZ, Option.some.injEq] at e
    subst q; subst e
    exact ⟨[], rfl, rfl, rfl, by simp⟩
  | x :: xs, us, ks, q, e => by
    simp only [VRs] at q
    obtain ⟨u, t, rfl, q1, q2⟩ := q
    simp only [keysZ] at e
    split at e
    · rename_i g k ks' e1 e2
      split at e
      · rename_i hg
        simp only [Option.some.injEq] at e
        subst e; subst hg
        obtain ⟨T, h1, h2, h3, h4⟩ := threes q2 e2
        refine ⟨(k, x, u) :: T, by simp [h1], by simp [h2], by simp [h3], fun t ht => ?_⟩
        rcases List.mem_cons.mp ht with rfl | ht
        · exact ⟨q1, e1⟩
        · exact h4 t ht
      · cases e
    · cases e
theorem vrs_of_map {K : PySem.W.Frag} {r w : List Addr} {H : Hp} : ∀ {T : List (List Int × MV × V)}, (∀ t ∈ T, VR K r w H t.2.1 t.2.2) → VRs K r w H (T.map (·.2.1)) (T.map (·.2.2))
  | [], _ => by simp [VRs]
  | t :: T, h => by
    simp only [List.map_cons, VRs]
    exact ⟨_, _, rfl, h t List.mem_cons_self, vrs_of_map fun u hu => h u (List.mem_cons_of_mem _ hu)⟩
theorem each_of : ∀ {T : List (List Int × MV × V)} {its : List Value}, Vals (T.map (·.2.2)) its → EachIs (fun (v : Value) (t : List Int × MV × V) => RelV t.2.2 v) its T
  | [], _, r => by rw [List.map_nil] at r; cases r; exact .nil
  | t :: T, _, r => by
    rw [List.map_cons] at r
    cases r with
    | cons h q => exact .cons h (each_of q)
theorem vals_of : ∀ {T : List (List Int × MV × V)} {its : List Value}, EachIs (fun (v : Value) (t : List Int × MV × V) => RelV t.2.2 v) its T → Vals (T.map (·.2.2)) its
  | [], _, .nil => .nil
  | _ :: _, _, .cons h q => .cons h (vals_of q)
section
variable {K : PySem.W.Frag} {X : Cx} {e : Expr} {es : List Expr} {m : XE} {mas : XA} {pos p tpos : Pos}
def rSortZ (K : PySem.W.Frag) : List V → Hp → VK → Prop := fun vs H Q => ∃ (a : Addr) (f : Bool) (T : List (List Int × MV × V)), vs = [V.ref a] ∧ SqL K H a (T.map (·.2.2)) ∧ (∀ t ∈ T, Dp K H t.2.2 (toP t.2.1) ∧ keyZ t.2.1 = some (f, t.1)) ∧
  ∀ (p : Addr), H p = none → Q (.ref p) (upd H p (.lst ((T.mergeSort fun a b => decide (a.1 ≤ b.1)).map (·.2.2))))
theorem depth_59 {x : MV} (h : isD 59 x = true) : (toP x).depth ≤ 59 := (toP_can 59 x h).2
theorem cr_sortZ (hu : X.A.units + 64 < cLine) : CallR X (.builtin "sorted") (rSortZ X.K) := by
  intro pins s σ H vs us Q I r h
  obtain ⟨a, f, T, rfl, hs, hd, q⟩ := h
  obtain ⟨its, rv, hl, hz⟩ := I.list hs
  rw [Vals.ref1 r]
  have e := each_of rv
  have kd : ∀ t ∈ T, toP t.2.1 = zData f t.1 ∧ t.1 ≠ [] ∧ isD 59 t.2.1 = true := fun t ht => keyZ_data (hd t ht).2
  have er : EachIs (fun v (t : List Int × MV × V) => ∃ as, Reads s.heap v (toP t.2.1) as) its T := (each_mem e).mono fun v t ⟨h1, h2⟩ => Dp.reads I _ _ v (hd t h2).1 h1
  have hal : AllAlike (T.map fun t => toP t.2.1) := by
    intro d hd1 d' hd2
    obtain ⟨t, ht, rfl⟩ := List.mem_map.mp hd1
    obtain ⟨t', ht', rfl⟩ := List.mem_map.mp hd2
    rw [(kd t ht).1, (kd t' ht').1]
    exact z_alike f (kd t ht).2.1 (kd t' ht').2.1
  have hk : Sortable (T.map fun t => toP t.2.1) := .inl fun d hd1 => by
    obtain ⟨t, ht, rfl⟩ := List.mem_map.mp hd1
    obtain ⟨k1, k2, _⟩ := kd t ht
    rw [k1]
    cases ht1 : t.1 with
    | nil => exact absurd ht1 k2
    | cons a r => cases f <;> exact ⟨_, _, rfl⟩
  have eo : T.mergeSort (dataLe false fun t => toP t.2.1) = T.mergeSort fun a b => decide (a.1 ≤ b.1) := by
    have := List.map_mergeSort (r := dataLe false fun t : List Int × MV × V => toP t.2.1) (s := fun a b : List Int × MV × V => decide (a.1 ≤ b.1)) (f := id) (l := T) fun x hx y hy => by
      show (!dataLt (toP y.2.1) (toP x.2.1)) = decide (x.1 ≤ y.1)
      rw [(kd x hx).1, (kd y hy).1, z_lt f (kd y hy).2.1 (kd x hx).2.1, not_lt_rows]
    rwa [List.map_id, List.map_id] at this
  refine sorted_data (R := fun v (t : List Int × MV × V) => RelV t.2.2 v) (enc := fun t => toP t.2.1) hl.isList e er hal hk (by rw [← e.length, ← rv.length]; exact hz) (fun t ht => by have := depth_59 (kd t ht).2.2; omega) fun out ho hout => ?_
  rw [eo] at hout
  obtain ⟨ep, he'⟩ := PyProof.Rows.sortedAll_at s.heap its out.toArray
  have hlen : ((T.mergeSort fun a b => decide (a.1 ≤ b.1)).map (·.2.2)).length ≤ sizeLine := by
    rw [List.length_map, List.length_mergeSort]
    rw [List.length_map] at hz
    exact hz
  exact ⟨.ref _, upd H (s.heap.objs.size + 1) (.lst _), I.laid (t' := s.toks) (fun _ _ => PyProof.Rows.sortedAll_old) (Nat.le_succ _) ⟨hlen, out, ep, vals_of hout, he'⟩, rfl, q _ (I.hok.fresh (Nat.le_succ _))⟩
theorem mf_sortZ {k : Nat} (hr : Room k X.A) (hm : X.mg "sorted" = none) (ha : MA X (e :: es) mas) (hg : Gl X "sorted" := by rfl) (he : starEach (e :: es) X.env = (false, eval e X.env) :: starEach es X.env := by rfl) (hpl : (backTo pos (starEach es X.env)).any (·.1) = false := by rfl) :
    MF X (.Call (.Name "sorted" p) (e :: es) [] pos) (xArgs fSortD mas) := PE.wk (pe_callB (cr_sortZ hr.units) hg hm (by decide +kernel) ha.pa (by decide +kernel) (by decide +kernel) he hpl) fun z H Q ⟨r, w, s, h, v, h', R, S, e, C⟩ => by
  obtain ⟨xs, e1, e2⟩ := xArgs_at e
  refine ⟨r, w, s, h, xs, h', R, S, e1, fun r1 us H1 F1 R1 VA => ?_⟩
  have key : ∀ (f : Bool) (zs : List MV) (ks : List (List Int)) (v' : MV) (u : V), listOf h' v' = some zs → VR X.K r1 w H1 v' u → keysZ f zs = some ks → v = .lst (sortZ ks zs) → rSortZ X.K [u] H1 Q := fun f zs ks v' u e3 q e4 ev => by
    obtain ⟨a, ws, rfl, sq, q2⟩ := list_sq X.K R1 q e3
    obtain ⟨T, h1, h2, h3, h4⟩ := threes q2 e4
    subst h3
    refine ⟨a, f, T, rfl, sq, fun t ht => ⟨toP_dp X.K _ _ 59 (keyZ_data (h4 t ht).2).2.2 (h4 t ht).1, (h4 t ht).2⟩, fun p hp => ?_⟩
    have es : sortZ ks zs = (T.mergeSort fun a b => decide (a.1 ≤ b.1)).map (·.2.1) := by
      have z : ks.zip zs = T.map fun t => (t.1, t.2.1) := by rw [← h1, ← h2, List.zip_map']
      unfold sortZ
      rw [z, ← List.map_mergeSort (r := fun a b : List Int × MV × V => decide (a.1 ≤ b.1)) (f := fun t => (t.1, t.2.1)) (l := T) fun _ _ _ _ => rfl, List.map_map]
      rfl
    subst ev
    rw [es] at C
    exact (C.fwd F1 R1).lst R1 hp (vrs_of_map fun t ht => (h4 t ((List.mergeSort_perm T _).mem_iff.mp ht)).1)
  unfold fSortD at e2
  split at e2
  · rename_i v'
    obtain ⟨u, rfl, q⟩ := vrs1 VA
    split at e2
    · rename_i zs e3
      split at e2
      · rename_i ks e4
        simp only [Option.some.injEq] at e2
        exact key true zs ks v' u e3 q e4 e2.symm
      · split at e2
        · rename_i ks e4
          simp only [Option.some.injEq] at e2
          exact key false zs ks v' u e3 q e4 e2.symm
        · cases e2
    · cases e2
  · cases e2
/-! ### enumerate(xs) -/
theorem walks_enumL (K : PySem.W.Frag) {r w : List Addr} {H : Hp} {h : MH} {a : Addr} {xs : List MV} (R : Rel K r w h H) (V : VR K r w H (.lst xs) (.ref a)) : Walks K (Ite K a) (enumM 0 xs) r w H := by
  have get : ∀ r1 w1 H1 h1, Stp r w H r1 w1 H1 → Rel K r1 w1 h1 H1 → ∃ us, SqL K H1 a us ∧ VRs K r1 w1 H1 xs us := fun r1 w1 H1 h1 F R1 => by
    obtain ⟨p, us, ep, sq, q⟩ := list_sq K R1 (VR.map F _ _ V) rfl
    cases ep
    exact ⟨us, sq, q⟩
  refine ⟨fun i r1 w1 H1 h1 _ F R1 hi => ?_, fun i r1 w1 H1 h1 _ F R1 hi => ?_⟩
  · obtain ⟨us, sq, q⟩ := get r1 w1 H1 h1 F R1
    rw [enumM_len] at hi
    have e1 : xs[i]? = some xs[i] := List.getElem?_eq_getElem hi
    obtain ⟨u, q1, q2⟩ := VRs.get q e1
    refine ⟨⟨us, u, sq, q1⟩, fun x H2 ⟨T, y, ex, hT, eH, hx⟩ => ?_⟩
    subst eH ex
    have := hx us sq
    rw [q1] at this
    cases this
    refine ⟨Fwd.new r1 hT, R1.new hT, _, by rw [enumM_at, e1]; rfl, VR.newTup R1 hT ?_⟩
    rw [Nat.zero_add]
    simp only [VRs, VR]
    exact ⟨_, _, rfl, rfl, u, [], rfl, q2, rfl⟩
  · obtain ⟨us, sq, q⟩ := get r1 w1 H1 h1 F R1
    exact ⟨us, sq, by rw [← VRs.length q, ← hi, enumM_len]; exact Nat.le_refl _⟩
theorem mi_enumL {elts : List Expr} {kk : Nat} (hm : X.mg "enumerate" = none) (he : ME X e m) (hg : Gl X "enumerate" := by rfl) (hs : starEach [e] X.env = [(false, eval e X.env)] := by rfl) : MII X (.Tuple elts kk tpos) (.Call (.Name "enumerate" p) [e] [] pos) (iEnumL m) :=
  PI.wk (pi_enum hg hm (pa_cons he pa_nil hs) hs) fun z H Q ⟨r, w, s, h, it, h', R, S, e, C⟩ => by
  unfold iEnumL at e
  split at e
  · rename_i xs h1 e1
    simp only [Option.some.injEq, Prod.mk.injEq] at e
    obtain ⟨rfl, rfl⟩ := e
    refine ⟨r, w, s, h, _, h1, R, S, e1, fun r1 u H1 F1 R1 V1 => ?_⟩
    obtain ⟨a, us, rfl, sq, q⟩ := list_sq X.K R1 V1 rfl
    exact ⟨a, us, rfl, sq, C r1 _ H1 F1 R1 (walks_enumL X.K R1 V1)⟩
  · cases e
end
end Ew
end

section
set_option Elab.async false
set_option linter.all false
set_option maxRecDepth 100000
set_option maxHeartbeats 4000000
/-! EwU: == of lists of dicts. -/
namespace PySem.SeqAt
open AutoSeq1 (wpAny_loadPart')
open MeetsSeq MeetsSeq2 MeetsSeq3 SeqRoads2
section
variable {P0 : Program} {w0 : World}
/-- two lists of equal items, != gone through from the i-th items on -/
theorem ew_neq_turns (la lb : Addr) (xs ys : Array Value) (na nb : Nat) (da db : Option Addr) (ea eb : Array (Option Value)) (same : xs.size = ys.size) (k : Nat) :
    ∀ i : Nat, xs.size - i = k → MeetsIn P0 w0 (Builtin.«list.__eq__.loop» ⟨[.ref la, .ref lb, rawInt i, rawInt 3], []⟩)
      (fun A R s => s.heap.get? la = some { cls := .type "list", dict := da, data := .seq xs na, slots := ea } ∧ s.heap.get? lb = some { cls := .type "list", dict := db, data := .seq ys nb, slots := eb } ∧
        (∀ j (h1 : j < xs.size) (h2 : j < ys.size), EqP P0 w0 A.in1 s xs[j] ys[j] true) ∧ R (.ok (.ret (.bool false))) s) := by
  induction k with
  | zero =>
    intro i hk A R s0 z
    obtain ⟨x1, x2, x3, x4, x5⟩ := s0; obtain ⟨zl, zb, ze, zr⟩ := z
    wp_walk using wpAny_loadPart' zl, wpAny_loadPart' zb
    have o1 : xs[((i : Nat) : Int).toNat]? = none := by simp; omega
    have o2 : ys[((i : Nat) : Int).toNat]? = none := by simp; omega
    rw [o1, o2]
    wp_walk using wpAny_loadPart' zl, wpAny_loadPart' zb
    show R (.ok (.ret (.bool (xs.size != ys.size)))) _
    rw [same, bne_self_eq_false]
    exact zr
  | succ k ih =>
    intro i hk A R s0 z
    obtain ⟨x1, x2, x3, x4, x5⟩ := s0; obtain ⟨zl, zb, ze, zr⟩ := z
    wp_walk using wpAny_loadPart' zl, wpAny_loadPart' zb
    have lt1 : i < xs.size := by omega
    have lt2 : i < ys.size := by omega
    have o1 : xs[((i : Nat) : Int).toNat]? = some xs[i] := by simp [lt1]
    have o2 : ys[((i : Nat) : Int).toNat]? = some ys[i] := by simp [lt2]
    have nxt : ((i : Int) + 1) = ((i + 1 : Nat) : Int) := by omega
    rw [o1, o2]
    refine wpAny_bind (ze i lt1 lt2 _ _ ?_)
    wp_walk
    rw [nxt]
    refine ⟨plainId_quiet plain_eq_loop _, codeAny_builtin entry_eq_loop ?_⟩
    rw [Around.under_plainId plain_eq_loop _]
    exact ih (i + 1) (by omega) A R _ ⟨zl, zb, ze, zr⟩
theorem ew_neq_lists (la lb : Addr) (xs ys : Array Value) (na nb : Nat) (da db : Option Addr) (ea eb : Array (Option Value)) (same : xs.size = ys.size) :
    MeetsIn P0 w0 (Builtin.«list.__ne__» ⟨[.ref la, .ref lb], []⟩)
      (fun A R s => s.heap.get? la = some { cls := .type "list", dict := da, data := .seq xs na, slots := ea } ∧ s.heap.get? lb = some { cls := .type "list", dict := db, data := .seq ys nb, slots := eb } ∧
        (∀ j (h1 : j < xs.size) (h2 : j < ys.size), EqP P0 w0 A.in1 s xs[j] ys[j] true) ∧ R (.ok (.ret (.bool false))) s) := by
  intro A R s0 z
  obtain ⟨x1, x2, x3, x4, x5⟩ := s0; obtain ⟨zl, zb, ze, zr⟩ := z
  have sub := AutoSeq1.sub_list_list
  have nne : ¬ (xs.size != ys.size) = true := by simp [same]
  wp_walk using wpAny_loadPart' zl, wpAny_loadPart' zb
  refine ⟨plainId_quiet plain_eq_loop _, codeAny_builtin entry_eq_loop ?_⟩
  rw [Around.under_plainId plain_eq_loop _]
  exact ew_neq_turns la lb xs ys na nb da db ea eb same _ 0 rfl A R _ ⟨zl, zb, ze, zr⟩
theorem ew_rc_neq {A : Around} {s : Shared} {la lb : Addr} {xs ys : Array Value} (hl : s.heap.IsList la xs) (hb : s.heap.IsList lb ys) (same : xs.size = ys.size) (hu : A.units < cLine)
    (he : ∀ j (h1 : j < xs.size) (h2 : j < ys.size), EqP P0 w0 A.in1 s xs[j] ys[j] true) (E Q : Value → Shared → Prop) (q : Q (.bool false) s) : wpAny (model P0 w0) A (richCompare .NotEq (.ref la) (.ref lb)) Q E s :=
  let ⟨o1, ho1, hc1, n1, hd1⟩ := hl
  let ⟨o2, ho2, hc2, n2, hd2⟩ := hb
  by
    obtain ⟨c1, d1, t1, s1⟩ := o1
    obtain ⟨c2, d2, t2, s2⟩ := o2
    simp only at hc1 hd1 hc2 hd2
    subst hc1 hd1 hc2 hd2
    have ta : s.TypeIs (.ref la) "list" := ⟨_, ho1, rfl⟩
    have tb : s.TypeIs (.ref lb) "list" := ⟨_, ho2, rfl⟩
    exact wpAny_richCompare_same_room (op := .NotEq) ta tb F.slot_list_ne (call_meetsIn F.slot_list_ne ta F.entry_list_ne (F.args_list_ne_2 _ _) (ew_neq_lists la lb xs ys n1 n2 d1 d2 s1 s2 same)
      ⟨ho1, ho2, he, show Value.bool false ≠ Value.notImplemented ∧ Q (.bool false) s from ⟨(fun x => nomatch x), q⟩⟩) hu
end
end PySem.SeqAt
namespace Ew
open PySem PySem.Spec PyProof.Rows L2
variable [Tabs]
/-- data that are equal -/
def DatEq (K : PySem.W.Frag) (H : Hp) (x y : V) : Prop := ∃ d e, Dp K H x d ∧ Dp K H y e ∧ SeqAt.shaped d = true ∧ SeqAt.shaped e = true ∧ PyData.eqv d e = true
/-- dicts of data that are equal -/
def DctEq (K : PySem.W.Frag) (H : Hp) (x y : V) : Prop := ∃ p q ks ls, x = .ref p ∧ y = .ref q ∧ Rd H p (.dK ks) ∧ Rd H q (.dK ls) ∧ ks.length = ls.length ∧ ∀ z ∈ ks, ∃ u, valV ls z.1 = some u ∧ DatEq K H z.2 u
variable {X : Cx}
theorem dctEq_run {pins : List (Addr × Obj)} {σ : L2.St} {H : Hp} {s : Shared} (I : Inv X pins σ H s) (hu : X.A.in1.in1.units + 64 < cLine) : ∀ (x y : V) (v u : Value), DctEq X.K H x y → RelV x v → RelV y u → SeqAt.EqP X.prog X.w X.A.in1 s v u true := by
  intro x y v u h rx ry
  obtain ⟨p, q, ks, ls, rfl, rfl, ha, hb, hl, hp⟩ := h
  cases (show v = Value.ref p from rx)
  cases (show u = Value.ref q from ry)
  by_cases e : p = q
  · subst e
    exact (SeqAt.EqAt.same _).eqP
  · refine SeqAt.eqP_refs e fun E Q q => ?_
    obtain ⟨_, ya, va, ra, da⟩ := dk_rd I.hok ha
    obtain ⟨_, yb, vb, rb, db⟩ := dk_rd I.hok hb
    have hu1 : X.A.in1.units < cLine := by have : X.A.in1.in1.units = X.A.in1.units + 1 := rfl; omega
    refine PySem.W.rcP_dicts (knd := mixKind X.prog X.w) (r := true) ya yb da db hu1 (fun _ => hits_run (F := DatEq X.K H) (fun x y v u h rx ry => ?_) rb ra hp) E Q ?_
    · obtain ⟨d, f, d1, d2, s1, s2, e⟩ := h
      obtain ⟨as, r1⟩ := Dp.reads I d x v d1 rx
      obtain ⟨bs, r2⟩ := Dp.reads I f y u d2 ry
      have := PySem.W.keq_at r1 r2 s1 s2 hu
      rw [e] at this
      exact this.eqP
    · have e : va.length = vb.length := by rw [← ra.length, ← rb.length]; exact hl
      rw [show (va.length == vb.length && true) = true from by rw [e]; simp]
      exact q
theorem op_eqDL (hu : X.A.in1.in1.units + 64 < cLine) : OpR X (compareOp .Eq) (fun x y H Q => EqR X.K H (DctEq X.K H) x y ∧ Q (.bl true) H) := by
  intro pins s σ H x y v u Q I rx ry h
  obtain ⟨h, q⟩ := h
  have hu1 : X.A.units < cLine := by
    have : X.A.in1.in1.units = X.A.in1.units + 1 := rfl
    have : X.A.in1.units = X.A.units + 1 := rfl
    omega
  exact eqR_run I (A := X.A) hu1 (dctEq_run I hu) h rx ry _ _ ⟨.bl true, H, I, rfl, q⟩
theorem op_neDL (hu : X.A.in1.in1.units + 64 < cLine) : OpR X (compareOp .NotEq) (fun x y H Q => (∃ a b xs ys, x = .ref a ∧ y = .ref b ∧ SqL X.K H a xs ∧ SqL X.K H b ys ∧ Paired (DctEq X.K H) xs ys) ∧ Q (.bl false) H) := by
  intro pins s σ H x y v u Q I rx ry h
  obtain ⟨⟨a, b, xs, ys, rfl, rfl, ha, hb, hp⟩, q⟩ := h
  cases rx
  cases ry
  have hu1 : X.A.units < cLine := by
    have : X.A.in1.in1.units = X.A.in1.units + 1 := rfl
    have : X.A.in1.units = X.A.units + 1 := rfl
    omega
  obtain ⟨us, r1, p1, _⟩ := I.list ha
  obtain ⟨ws, r2, p2, _⟩ := I.list hb
  have hsz : us.toArray.size = ws.toArray.size := by
    rw [List.size_toArray, List.size_toArray, ← r1.length, ← r2.length]
    exact Paired.length hp
  refine SeqAt.ew_rc_neq p1.isList p2.isList hsz hu1 (fun j h1 h2 => ?_) _ _ ⟨.bl false, H, I, rfl, q⟩
  have k := items_run (dctEq_run I hu) hp r1 r2 j (by simpa using h1) (by simpa using h2)
  simpa using k
theorem Room.u2 {k : Nat} (hr : Room k X.A) : X.A.in1.in1.units + 64 < cLine := by
  have h := hr.un
  have : X.A.in1.in1.units = X.A.in1.units + 1 := rfl
  have : X.A.in1.units = X.A.units + 1 := rfl
  omega
theorem dk_hits {K : PySem.W.Frag} {r w : List Addr} {H : Hp} {ys : List (MK × MV)} {ls : List (Key × V)} (q2 : VRk K r w H ys ls) (d2 : dataKs ys = true) : ∀ {xs : List (MK × MV)} {ks : List (Key × V)}, VRk K r w H xs ks → dataKs xs = true →
    (xs.all fun kv => match getK ys kv.1 with | some y => eqD kv.2 y | none => false) = true → ∀ z ∈ ks, ∃ u, valV ls z.1 = some u ∧ DatEq K H z.2 u
  | [], ks, q, _, _ => by simp only [VRk] at q; subst q; exact fun z hz => nomatch hz
  | (k, v) :: xs, ks, q, d, e => by
    simp only [VRk] at q
    obtain ⟨u, t, rfl, q3, q4⟩ := q
    unfold dataKs at d
    rw [List.all_cons, Bool.and_eq_true] at d e
    have ih := dk_hits q2 d2 q4 (by unfold dataKs; exact d.2) e.2
    rcases VRk.get k q2 with ⟨g1, g2⟩ | ⟨x, u2, g1, g2, g3⟩
    · have e1 := e.1
      simp only [g1] at e1
      cases e1
    · have e1 := e.1
      simp only [g1] at e1
      have dx : isD 60 v = true := isD_mono 50 60 v (by omega) d.1
      have dy : isD 60 x = true := by
        have : ∃ kv ∈ ys, kv.2 = x := by
          unfold getK at g1
          cases e : ys.find? fun kv => decide (kv.1 = k) with
          | none => rw [e] at g1; cases g1
          | some kv =>
            rw [e] at g1
            exact ⟨kv, List.mem_of_find?_eq_some e, by simpa using g1⟩
        obtain ⟨kv, hm, rfl⟩ := this
        exact isD_mono 50 60 _ (by omega) (List.all_eq_true.mp d2 kv hm)
      intro z hz
      rcases List.mem_cons.mp hz with rfl | hz
      · exact ⟨u2, g2, _, _, toP_dp K v u 60 dx q3, toP_dp K x u2 60 dy g3, shaped_of dx, shaped_of dy, by rw [toP_eqv v x 60 dx dy]; exact e1⟩
      · exact ih z hz
theorem dcts_eq {K : PySem.W.Frag} {r w : List Addr} {h : MH} {H : Hp} (R : Rel K r w h H) : ∀ {xs ys : List MV} {ds es : List (List (MK × MV))} {us vs : List V}, VRs K r w H xs us → VRs K r w H ys vs → dictsOf h xs = some ds → dictsOf h ys = some es → eqDs2 ds es = true → Paired (DctEq K H) us vs
  | [], [], ds, es, us, vs, q1, q2, _, _, _ => by
    simp only [VRs] at q1 q2
    subst q1 q2
    exact .nil
  | [], y :: ys, ds, es, us, vs, q1, q2, e1, e2, e => by
    simp only [dictsOf, Option.some.injEq] at e1
    subst e1
    simp only [dictsOf] at e2
    split at e2
    · cases e2; simp [eqDs2] at e
    · cases e2
  | x :: xs, [], ds, es, us, vs, q1, q2, e1, e2, e => by
    simp only [dictsOf, Option.some.injEq] at e2
    subst e2
    simp only [dictsOf] at e1
    split at e1
    · cases e1; simp [eqDs2] at e
    · cases e1
  | x :: xs, y :: ys, ds, es, us, vs, q1, q2, e1, e2, e => by
    simp only [VRs] at q1 q2
    obtain ⟨u, us, rfl, a1, b1⟩ := q1
    obtain ⟨v, vs, rfl, a2, b2⟩ := q2
    simp only [dictsOf] at e1 e2
    split at e1
    · rename_i kx dx ex exs
      cases e1
      split at e2
      · rename_i ky dy ey eys
        cases e2
        simp only [eqDs2, Bool.and_eq_true] at e
        obtain ⟨⟨⟨h1, h2⟩, h3⟩, h4⟩ := e
        refine .cons ?_ (dcts_eq R b1 b2 exs eys h4)
        obtain ⟨p, ks, rfl, rd, c1⟩ := dictK_rd R a1 ex
        obtain ⟨q, ls, rfl, rd2, c2⟩ := dictK_rd R a2 ey
        unfold eqKs at h3
        rw [Bool.and_eq_true, beq_iff_eq] at h3
        exact ⟨p, q, ks, ls, rfl, rfl, rd, rd2, by rw [← VRk.length c1, ← VRk.length c2]; exact h3.1, dk_hits c2 h2 c1 h1 h3.2⟩
      · cases e2
    · cases e1
theorem eqDL_of {K : PySem.W.Frag} {r w : List Addr} {h : MH} {H : Hp} {x y : MV} {u v : V} (R : Rel K r w h H) (q1 : VR K r w H x u) (q2 : VR K r w H y v) (e : eqDL h x y = true) : EqR K H (DctEq K H) u v := by
  unfold eqDL at e
  split at e
  · rename_i xs ys e1 e2
    split at e
    · rename_i ds es e3 e4
      obtain ⟨p, us, rfl, a1, b1⟩ := lstC_at R q1 e1
      obtain ⟨q, vs, rfl, a2, b2⟩ := lstC_at R q2 e2
      exact .inl ⟨p, q, us, vs, rfl, rfl, .inl (.inl a1), .inl (.inl a2), dcts_eq R b1 b2 e3 e4 e⟩
    · cases e
  · cases e
theorem neDL_of {K : PySem.W.Frag} {r w : List Addr} {h : MH} {H : Hp} {x y : MV} {u v : V} (R : Rel K r w h H) (q1 : VR K r w H x u) (q2 : VR K r w H y v) (e : eqDL h x y = true) : ∃ a b xs ys, u = .ref a ∧ v = .ref b ∧ SqL K H a xs ∧ SqL K H b ys ∧ Paired (DctEq K H) xs ys := by
  unfold eqDL at e
  split at e
  · rename_i xs ys e1 e2
    split at e
    · rename_i ds es e3 e4
      obtain ⟨p, us, rfl, a1, b1⟩ := lstC_at R q1 e1
      obtain ⟨q, vs, rfl, a2, b2⟩ := lstC_at R q2 e2
      exact ⟨p, q, us, vs, rfl, rfl, .inl (.inl a1), .inl (.inl a2), dcts_eq R b1 b2 e3 e4 e⟩
    · cases e
  · cases e
theorem c_neDL {k : Nat} (hr : Room k X.A) (ha : ME X a ma) (hb : ME X b mb) : ME X (.Compare a [.NotEq] [b] pos) (xOp opNeDL ma mb) ∧ MT X (.Compare a [.NotEq] [b] pos) (xB (xOp opNeDL ma mb)) := c_cmp (op_neDL (Room.u2 hr)) (fun r w h H x y v u1 u2 Q R V1 V2 e C => by
  unfold opNeDL at e
  split at e
  · rename_i c
    cases e
    exact ⟨neDL_of R V1 V2 c, C.now R (by simp only [VR])⟩
  · cases e) ha hb (nomark _)
theorem c_eqDL {k : Nat} (hr : Room k X.A) (ha : ME X a ma) (hb : ME X b mb) : ME X (.Compare a [.Eq] [b] pos) (xOp opEqDL ma mb) ∧ MT X (.Compare a [.Eq] [b] pos) (xB (xOp opEqDL ma mb)) := c_cmp (op_eqDL (Room.u2 hr)) (fun r w h H x y v u1 u2 Q R V1 V2 e C => by
  unfold opEqDL at e
  split at e
  · rename_i c
    cases e
    exact ⟨eqDL_of R V1 V2 c, C.now R (by simp only [VR])⟩
  · cases e) ha hb (nomark _)
/-! ### str(i) -/
section
variable {K : PySem.W.Frag} {e a b c o i : Expr} {m ma mb mc mo mi : XE} {pos p : Pos} {es : List Expr} {mas : XA} {tg : Expr}
theorem me_strI (hm : X.mg "str" = none) (ha : MA X (e :: es) mas) (hg : Gl X "str" := by rfl) (he : starEach (e :: es) X.env = (false, eval e X.env) :: starEach es X.env := by rfl) (hpl : (backTo pos (starEach es X.env)).any (·.1) = false := by rfl) :
    ME X (.Call (.Name "str" p) (e :: es) [] pos) (xArgs fStrI mas) := me_t call_str_int (fun r w h H xs v us Q R V e C => by
  unfold fStrI at e
  split at e
  · split at e
    · rename_i hz
      obtain ⟨u, rfl, q⟩ := vrs1 V
      simp only [VR] at q
      subst q
      simp only [Option.some.injEq] at e; subst e
      exact ⟨_, rfl, hz, C.now R (by simp only [VR])⟩
    · cases e
  · cases e) (by first | rfl | decide +kernel) hm ha hg (by decide +kernel) (by decide +kernel) he hpl
/-! ### reversed -/
theorem walks_rev (K : PySem.W.Frag) {r w : List Addr} {H : Hp} {xs : List MV} {n : Nat} {J : It} (P : Hp → List V → Prop) (hJ : J = ⟨fun i H => i < n ∧ ∃ (xs : List V) (x : V), P H xs ∧ xs[n - 1 - i]? = some x, fun i H x H' => H' = H ∧ ∀ xs, P H xs → xs[n - 1 - i]? = some x, fun i _ => n ≤ i⟩) (hn : n = xs.length)
    (get : ∀ r1 w1 H1 h1, Stp r w H r1 w1 H1 → Rel K r1 w1 h1 H1 → ∃ us, P H1 us ∧ VRs K r1 w1 H1 xs us) : Walks K J xs.reverse r w H := by
  subst hJ hn
  refine ⟨fun i r1 w1 H1 h1 _ F R1 hi => ?_, fun i r1 w1 H1 h1 _ F R1 hi => ?_⟩
  · obtain ⟨us, sq, q⟩ := get r1 w1 H1 h1 F R1
    rw [List.length_reverse] at hi
    have hj : xs.length - 1 - i < xs.length := by omega
    have e1 : xs[xs.length - 1 - i]? = some xs[xs.length - 1 - i] := List.getElem?_eq_getElem hj
    obtain ⟨u, q1, q2⟩ := VRs.get q e1
    refine ⟨⟨hi, us, u, sq, q1⟩, fun x H2 ⟨eH, hx⟩ => ?_⟩
    subst eH
    have := hx us sq
    rw [q1] at this
    cases this
    exact ⟨Fwd.refl _ _, R1, _, by rw [List.getElem?_reverse hi]; exact e1, q2⟩
  · rw [List.length_reverse] at hi
    exact Nat.le_of_eq hi
theorem mi_rev (hm : X.mg "reversed" = none) (he : ME X e m) (hg : Gl X "reversed" := by rfl) (hs : starEach [e] X.env = (false, eval e X.env) :: starEach [] X.env := by rfl) : MII X tg (.Call (.Name "reversed" p) [e] [] pos) (iRev m) :=
  PI.wk (RT.pi_revA hg hm he hs) fun z H Q ⟨r, w, s, h, it, h', R, S, e, C⟩ => by
  unfold iRev at e
  split at e
  · rename_i v h1 e1
    split at e
    · rename_i xs e2
      simp only [Option.some.injEq, Prod.mk.injEq] at e
      obtain ⟨rfl, rfl⟩ := e
      refine ⟨r, w, s, h, v, h1, R, S, e1, fun r1 u H1 F1 R1 V1 => ?_⟩
      cases v <;> simp only [revV, reduceCtorEq, Option.some.injEq] at e2
      · subst e2
        have V1' := V1
        simp only [VR] at V1'
        obtain ⟨a, us, rfl, t, q⟩ := V1'
        refine ⟨a, us, rfl, .inr ⟨t.sq, C r1 _ H1 F1 R1 (walks_rev X.K (fun H us => SqT X.K H a us) rfl (VRs.length q).symm fun r2 w2 H2 h2 F R2 => ?_)⟩⟩
        have V2 := VR.map F _ _ V1
        simp only [VR] at V2
        obtain ⟨b, us', eb, t', q'⟩ := V2
        cases eb
        exact ⟨us', t'.sq, q'⟩
      · subst e2
        have V1' := V1
        simp only [VR] at V1'
        obtain ⟨a, us, rfl, n, t, q⟩ := V1'
        refine ⟨a, us, rfl, .inl ⟨.inl (.inl t), C r1 _ H1 F1 R1 (walks_rev X.K (fun H us => SqL X.K H a us) rfl (VRs.length q).symm fun r2 w2 H2 h2 F R2 => ?_)⟩⟩
        have V2 := VR.map F _ _ V1
        simp only [VR] at V2
        obtain ⟨b, us', eb, n', t', q'⟩ := V2
        cases eb
        exact ⟨us', .inl (.inl t'), q'⟩
      · subst e2
        have V1' := V1
        simp only [VR] at V1'
        obtain ⟨a, us, rfl, t, q⟩ := V1'
        refine ⟨a, us, rfl, .inr ⟨t.sq, C r1 _ H1 F1 R1 (walks_rev X.K (fun H us => SqT X.K H a us) rfl (VRs.length q).symm fun r2 w2 H2 h2 F R2 => ?_)⟩⟩
        have V2 := VR.map F _ _ V1
        simp only [VR] at V2
        obtain ⟨b, us', eb, t', q'⟩ := V2
        cases eb
        exact ⟨us', t'.sq, q'⟩
    · cases e
  · cases e
theorem VRs.rev {K : PySem.W.Frag} {r w : List Addr} {H : Hp} {xs : List MV} {us : List V} (q : VRs K r w H xs us) : VRs K r w H xs.reverse us.reverse := by
  induction xs generalizing us with
  | nil => simp only [VRs] at q; subst q; simp [VRs]
  | cons x xs ih =>
    simp only [VRs] at q
    obtain ⟨u, t, rfl, q1, q2⟩ := q
    rw [List.reverse_cons, List.reverse_cons]
    exact VRs.append (ih q2) (by simp only [VRs]; exact ⟨u, [], rfl, q1, rfl⟩)
theorem mf_revLst {k : Nat} {p1 p2 p3 : Pos} (he : ME X e m) : MF X (.Subscript e (.Slice none none (some (.UnaryOp .USub (.Constant (.int 1) k p1) p2)) p3) pos) (xUn opRevLst m) := PE.wk (pe_revL he) fun z H Q ⟨r, w, s, h, v, h', R, S, e, C⟩ => by
  unfold xUn at e
  cases e1 : m s h with
  | none => simp [e1] at e
  | some p1 =>
    obtain ⟨x, h1⟩ := p1
    simp only [e1] at e
    cases e2 : opRevLst h1 x with
    | none => simp [e2] at e
    | some y =>
      simp only [e2, Option.some.injEq, Prod.mk.injEq] at e
      obtain ⟨rfl, rfl⟩ := e
      unfold opRevLst at e2
      cases e3 : listOf h1 x with
      | none => simp [e3] at e2
      | some xs =>
        simp only [e3, Option.map_some, Option.some.injEq] at e2
        subst e2
        refine ⟨r, w, s, h, x, h1, R, S, e1, fun r1 u1 H1 F1 R1 V1 => ?_⟩
        obtain ⟨a, us, rfl, sq, q⟩ := list_sq X.K R1 V1 e3
        refine ⟨a, us, rfl, sq, fun p hp => ?_⟩
        exact (C.fwd F1 R1).lst R1 hp q.rev
theorem chain_wk {f f' : MH → MV → MV → Option MV} {t t' : R2} (hr : ∀ r w h H x y v u1 u2 Q, Rel X.K r w h H → VR X.K r w H x u1 → VR X.K r w H y u2 → f h x y = some v → Cont X.K r w h H v Q → t u1 u2 H Q)
    (hr' : ∀ r w h H x y v u1 u2 Q, Rel X.K r w h H → VR X.K r w H x u1 → VR X.K r w H y u2 → f' h x y = some v → Cont X.K r w h H v Q → t' u1 u2 H Q) : ∀ z H Q, tM X.K (xChain f f' ma mb mc) z H Q → tChain t t' (tM X.K ma) (tM X.K mb) (tM X.K mc) z H Q := fun z H Q ⟨r, w, s, h, v, h', R, S, e, C⟩ => by
  unfold xChain at e
  cases e1 : ma s h with
  | none => simp [e1] at e
  | some p1 =>
    obtain ⟨x, h1⟩ := p1
    simp only [e1] at e
    cases e2 : mb s h1 with
    | none => simp [e2] at e
    | some p2 =>
      obtain ⟨y, h2⟩ := p2
      simp only [e2] at e
      refine ⟨r, w, s, h, x, h1, R, S, e1, fun r1 u1 H1 F1 R1 V1 => ⟨r1, w, s, h1, y, h2, R1, S.fwd F1, e2, fun r2 u2 H2 F2 R2 V2 => ?_⟩⟩
      have V1' := VR.fwd F2 _ _ V1
      split at e
      · rename_i e3
        refine hr r2 w h2 H2 x y _ u1 u2 _ R2 V1' V2 e3 fun r3 u3 H3 F3 R3 V3 => ?_
        simp only [VR] at V3
        refine ⟨true, V3, ?_⟩
        rw [if_pos rfl]
        cases e4 : mc s h2 with
        | none => simp [e4] at e
        | some p3 =>
          obtain ⟨z', h3⟩ := p3
          simp only [e4] at e
          cases e5 : f' h3 y z' with
          | none => simp [e5] at e
          | some v' =>
            simp only [e5, Option.some.injEq, Prod.mk.injEq] at e
            obtain ⟨rfl, rfl⟩ := e
            exact ⟨r3, w, s, h2, z', h3, R3, ((S.fwd F1).fwd F2).fwd F3, e4, fun r4 u4 H4 F4 R4 V4 => hr' r4 w h3 H4 y z' _ u2 u4 _ R4 (VR.fwd F4 _ _ (VR.fwd F3 _ _ V2)) V4 e5 ((((C.fwd F1 R1).fwd F2 R2).fwd F3 R3).fwd F4 R4)⟩
      · rename_i e3
        simp only [Option.some.injEq, Prod.mk.injEq] at e
        obtain ⟨rfl, rfl⟩ := e
        refine hr r2 w h2 H2 x y _ u1 u2 _ R2 V1' V2 e3 fun r3 u3 H3 F3 R3 V3 => ?_
        have V3' := V3
        simp only [VR] at V3'
        refine ⟨false, V3', ?_⟩
        rw [if_neg Bool.noConfusion]
        exact C r3 _ H3 ((F1.tr R1 F2).tr R2 F3) R3 (by simp only [VR])
      · cases e
theorem c_chain {op op' : CmpOp} {f f' : MH → MV → MV → Option MV} {t t' : R2} (ho : OpR X (compareOp op) t) (hr : ∀ r w h H x y v u1 u2 Q, Rel X.K r w h H → VR X.K r w H x u1 → VR X.K r w H y u2 → f h x y = some v → Cont X.K r w h H v Q → t u1 u2 H Q)
    (ho' : OpR X (compareOp op') t') (hr' : ∀ r w h H x y v u1 u2 Q, Rel X.K r w h H → VR X.K r w H x u1 → VR X.K r w H y u2 → f' h x y = some v → Cont X.K r w h H v Q → t' u1 u2 H Q)
    (ha : ME X a ma) (hb : ME X b mb) (hc : ME X c mc) (hm : lastMarks [op, op'] [b, c] = false) : ME X (.Compare a [op, op'] [b, c] pos) (xChain f f' ma mb mc) ∧ MT X (.Compare a [op, op'] [b, c] pos) (xB (xChain f f' ma mb mc)) :=
  ⟨PE.wk (pe_chain ho ho' ha hb hc hm) (chain_wk hr hr'), PT.wk (pt_chain ho ho' ha hb hc hm) fun z H Q q => chain_wk hr hr' z H _ (tB_wk z H Q q)⟩
theorem c_lele (ha : ME X a ma) (hb : ME X b mb) (hc : ME X c mc) (hm : lastMarks [CmpOp.LtE, CmpOp.LtE] [b, c] = false := by with_unfolding_all rfl) : ME X (.Compare a [.LtE, .LtE] [b, c] pos) (xChain opLe opLe ma mb mc) ∧ MT X (.Compare a [.LtE, .LtE] [b, c] pos) (xB (xChain opLe opLe ma mb mc)) :=
  have k : ∀ r w h H x y v u1 u2 (Q : VK), Rel X.K r w h H → VR X.K r w H x u1 → VR X.K r w H y u2 → opLe h x y = some v → Cont X.K r w h H v Q → _ := fun r w h H x y v u1 u2 Q R V1 V2 e C => by
    cases x <;> cases y <;> simp only [opLe, reduceCtorEq, Option.some.injEq] at e
    subst e
    simp only [VR] at V1 V2
    subst V1 V2
    exact ⟨_, _, rfl, rfl, C.now R (by simp only [VR])⟩
  c_chain op_le k op_le k ha hb hc hm
theorem me_shr (ha : ME X a ma) (hb : ME X b mb) : ME X (.BinOp a .RShift b pos) (xOp opShr ma mb) := me_op op_shr (fun r w h H x y v u1 u2 Q R V1 V2 e C => by
  cases x <;> cases y <;> simp only [opShr, reduceCtorEq] at e
  rename_i i j
  split at e
  · rename_i hj
    simp only [Option.some.injEq] at e
    subst e
    simp only [VR] at V1 V2
    exact ⟨i, j, V1, V2, hj, C.now R (by simp only [VR])⟩
  · cases e) ha hb
theorem me_and1 (ha : ME X a ma) (hb : ME X b mb) : ME X (.BinOp a .BitAnd b pos) (xOp opAnd1 ma mb) := me_op op_andM (fun r w h H x y v u1 u2 Q R V1 V2 e C => by
  cases x <;> cases y <;> simp only [opAnd1, reduceCtorEq] at e
  rename_i i j
  split at e
  · rename_i hj
    simp only [Option.some.injEq] at e
    subst e hj
    simp only [VR] at V1 V2
    exact ⟨i, 1, V1, V2, C.now R (by simp only [VR]; rfl)⟩
  · cases e) ha hb
theorem me_shl1 (ha : ME X a ma) (hb : ME X b mb) : ME X (.BinOp a .LShift b pos) (xOp opShl1 ma mb) := me_op op_oneShl (fun r w h H x y v u1 u2 Q R V1 V2 e C => by
  cases x <;> cases y <;> simp only [opShl1, reduceCtorEq] at e
  rename_i i j
  split at e
  · rename_i hj
    simp only [Option.some.injEq] at e
    obtain ⟨h1, h2, h3⟩ := hj
    subst e h1
    simp only [VR] at V1 V2
    exact ⟨j.toNat, V1, by rw [V2]; congr 1; omega, by omega, C.now R (by simp only [VR])⟩
  · cases e) ha hb
end
/-! ### xs.clear() -/
section
variable {K : PySem.W.Frag} {X : Cx} {o : Expr} {mo : XE} {pos p apos : Pos}
theorem me_lclear (ho : ME X o mo) (hbase : attributeBase o "clear" X.env (eval o X.env) = eval o X.env := by rfl) (hline : (apos.endLine == pos.line) = true := by rfl) :
    ME X (.Call (.Attribute o "clear" apos) [] [] pos) (xClearL mo) := PE.wk (pe_bm0 PySem.F.plainAttrs_list PySem.F.slot_list_clear PySem.F.type_list_clear mt_clear ho hbase hline) fun z H Q ⟨r, w, s, h, v, h', R, S, e, C⟩ => by
  unfold xClearL at e
  split at e
  · rename_i n h1 e1
    split at e
    · rename_i xs e2
      simp only [Option.some.injEq, Prod.mk.injEq] at e
      obtain ⟨rfl, rfl⟩ := e
      refine ⟨r, w, s, h, _, h1, R, S, e1, fun r1 u1 H1 F1 R1 V1 => ?_⟩
      obtain ⟨a, us, rfl, hn, ha, q⟩ := ref_at R1 V1 e2
      refine ⟨.inl ⟨rfl, _, SqL.of ha⟩, a, us, rfl, rfl, ha, put_lst R1 hn (by simp only [VRs]) (by simp only [VR]) (C.fwd F1 R1) (fun _ _ z => by rw [ha] at z; cases z)⟩
    · cases e
  · cases e
end
/-! ### d.get(k, x), d.pop(k) -/
section
variable {K : PySem.W.Frag} {X : Cx} {o e f : Expr} {mo m1 m2 : XE} {pos p apos : Pos}
theorem isDct_at {K : PySem.W.Frag} {r w : List Addr} {h : MH} {H : Hp} {d : MV} {u : V} (R : Rel K r w h H) (q : VR K r w H d u) (e : isDct h d = true) : ∃ a, u = .ref a ∧ IsD H a := by
  unfold isDct at e
  rw [Bool.or_eq_true] at e
  rcases e with e | e
  · obtain ⟨xs, e⟩ := Option.isSome_iff_exists.mp e
    obtain ⟨p, us, rfl, rd, _⟩ := dictK_rd R q e
    exact ⟨p, rfl, .inl ⟨_, rd⟩⟩
  · obtain ⟨xs, e⟩ := Option.isSome_iff_exists.mp e
    obtain ⟨p, us, rfl, rd, _⟩ := dictT_rd R q e
    exact ⟨p, rfl, .inr ⟨_, rd⟩⟩
theorem me_dget1 {k : Nat} (hr : Room k X.A) (ho : ME X o mo) (he : ME X e m1) (m : M1 X o "get" apos e pos := by constructor <;> rfl) :
    ME X (.Call (.Attribute o "get" apos) [e] [] pos) (xGet1 mo m1) := PE.wk (pe_dget1 (by have := hr.un; omega) ho he m) fun z H Q ⟨r, w, s, h, v, h', R, S, e, C⟩ => by
  unfold xGet1 at e
  split at e
  · rename_i d h1 e1
    split at e
    · rename_i hd
      split at e
      · rename_i y h2 e2
        split at e
        · rename_i ro e3
          simp only [Option.some.injEq, Prod.mk.injEq] at e
          obtain ⟨rfl, rfl⟩ := e
          refine ⟨r, w, s, h, _, h1, R, S, e1, fun r1 u1 H1 F1 R1 V1 => ?_⟩
          obtain ⟨a, rfl, hd1⟩ := isDct_at R1 V1 hd
          refine ⟨a, rfl, hd1, r1, w, s, h1, _, h2, R1, S.fwd F1, e2, fun r2 u2 H2 F2 R2 V2 => ?_⟩
          obtain ⟨p, ep, g⟩ := look_get R2 (VR.fwd F2 _ _ V1) V2 e3
          cases ep
          rcases g with ⟨rfl, g⟩ | ⟨x, u, rfl, g, q⟩
          · exact ⟨none, g, ((C.fwd F1 R1).fwd F2 R2).now R2 (by simp only [Option.getD_none, VR])⟩
          · exact ⟨some u, g, ((C.fwd F1 R1).fwd F2 R2).now R2 q⟩
        · cases e
      · cases e
    · cases e
  · cases e
theorem me_dget2 {k : Nat} (hr : Room k X.A) (ho : ME X o mo) (he : ME X e m1) (hf : ME X f m2) (m : M2 X o "get" apos e f pos := by constructor <;> rfl) :
    ME X (.Call (.Attribute o "get" apos) [e, f] [] pos) (xGet2 mo m1 m2) := PE.wk (pe_dget2 (by have := hr.un; omega) ho he hf m) fun z H Q ⟨r, w, s, h, v, h', R, S, e, C⟩ => by
  unfold xGet2 at e
  split at e
  · rename_i d h1 e1
    split at e
    · rename_i hd
      split at e
      · rename_i y h2 e2
        split at e
        · rename_i x h3 e3
          split at e
          · rename_i ro e4
            simp only [Option.some.injEq, Prod.mk.injEq] at e
            obtain ⟨rfl, rfl⟩ := e
            refine ⟨r, w, s, h, _, h1, R, S, e1, fun r1 u1 H1 F1 R1 V1 => ?_⟩
            obtain ⟨a, rfl, hd1⟩ := isDct_at R1 V1 hd
            refine ⟨a, rfl, hd1, r1, w, s, h1, _, h2, R1, S.fwd F1, e2, fun r2 u2 H2 F2 R2 V2 => ?_⟩
            refine ⟨r2, w, s, h2, _, h3, R2, (S.fwd F1).fwd F2, e3, fun r3 u3 H3 F3 R3 V3 => ?_⟩
            obtain ⟨p, ep, g⟩ := look_get R3 (VR.fwd F3 _ _ (VR.fwd F2 _ _ V1)) (VR.fwd F3 _ _ V2) e4
            cases ep
            rcases g with ⟨rfl, g⟩ | ⟨x, u, rfl, g, q⟩
            · exact ⟨none, g, (((C.fwd F1 R1).fwd F2 R2).fwd F3 R3).now R3 V3⟩
            · exact ⟨some u, g, (((C.fwd F1 R1).fwd F2 R2).fwd F3 R3).now R3 q⟩
          · cases e
        · cases e
      · cases e
    · cases e
  · cases e
theorem VRk.drop {K : PySem.W.Frag} {r w : List Addr} {H : Hp} (k : MK) : ∀ {xs : List (MK × MV)} {us : List (Key × V)}, VRk K r w H xs us → VRk K r w H (dropM xs k) (dropK us k)
  | [], us, h => by simp only [VRk] at h; subst h; simp only [dropM, dropK, List.filter_nil, VRk]
  | (k', x) :: xs, us, h => by
    simp only [VRk] at h
    obtain ⟨u, t, rfl, q1, q⟩ := h
    have ih := VRk.drop k q
    unfold dropM dropK at ih ⊢
    by_cases e : k' = k
    · subst e
      rw [List.filter_cons_of_neg (by simp), List.filter_cons_of_neg (by simp)]
      exact ih
    · rw [List.filter_cons_of_pos (by simpa using e), List.filter_cons_of_pos (by simpa using e)]
      simp only [VRk]
      exact ⟨u, _, rfl, q1, ih⟩
theorem me_dpop1 (ho : ME X o mo) (he : ME X e m1) (m : M1 X o "pop" apos e pos := by constructor <;> rfl) :
    ME X (.Call (.Attribute o "pop" apos) [e] [] pos) (xDPop mo m1) := PE.wk (pe_dpop1 ho he m) fun z H Q ⟨r, w, s, h, v, h', R, S, e, C⟩ => by
  unfold xDPop at e
  split at e
  · rename_i n h1 e1
    split at e
    · rename_i kvs0 hc0
      split at e
      · rename_i y h2 e2
        split at e
        · rename_i kvs kk hc ek
          split at e
          · rename_i v0 eg
            simp only [Option.some.injEq, Prod.mk.injEq] at e
            obtain ⟨rfl, rfl⟩ := e
            refine ⟨r, w, s, h, _, h1, R, S, e1, fun r1 u1 H1 F1 R1 V1 => ?_⟩
            have V1' := V1
            simp only [VR] at V1'
            obtain ⟨a, rfl, hn⟩ := V1'
            have hc1 := R1.at_ n a _ hn hc0
            simp only [CRel] at hc1
            obtain ⟨us0, hd0, _⟩ := hc1
            refine ⟨a, rfl, .inl ⟨_, .inl hd0⟩, r1, w, s, h1, _, h2, R1, S.fwd F1, e2, fun r2 u2 H2 F2 R2 V2 => ?_⟩
            have V3 := VR.fwd F2 _ _ V1
            simp only [VR] at V3
            obtain ⟨b, eb, hn2⟩ := V3
            cases eb
            have hc2 := R2.at_ n a _ hn2 hc
            simp only [CRel] at hc2
            obtain ⟨us, hd, q⟩ := hc2
            rcases VRk.get kk q with ⟨g1, _⟩ | ⟨x, u, g1, g2, g3⟩
            · rw [g1] at eg; cases eg
            · rw [g1] at eg
              cases eg
              refine ⟨us, kk, u, hd, key_kV V2 ek, g2, ?_⟩
              refine ((C.fwd F1 R1).fwd F2 R2) r2 _ _ (Fwd.put hn2 _ (fun _ _ z => by rw [hd] at z; cases z)) (R2.put hn2 (c := .dK (dropM kvs kk)) ?_) (VR.map (Stp.put hn2 _) _ _ g3)
              simp only [CRel]
              exact ⟨_, upd_same, VRk.map (Stp.put hn2 _) _ _ (VRk.drop kk q)⟩
          · cases e
        · cases e
      · cases e
    · cases e
  · cases e
end
end Ew
end

section
set_option Elab.async false
set_option linter.all false
set_option maxRecDepth 100000
set_option maxHeartbeats 4000000
/-! EwKE: walks over the keys of whatever names a dict in a cell. -/
namespace Ew
open PySem PySem.Spec PyProof.Rows L2
section
variable [Tabs] {X : Cx} {pos : Pos}
theorem lcKE_wk {K : PySem.W.Frag} {mo : XE} {gt : TG} {gm : XG} {c : XT} {me : XE} {own : List Nat} (tg : TgOk K own gt gm) : ∀ z H Q, tF K (xLcKE mo gm c me own) z H Q →
    tLockE (tLc (iKeysM (tM K mo)) gt (tT K c) (tM K me) own) z H Q := fun z H Q ⟨r, w, s, h, v, h', R, S, ev, C⟩ => by
  unfold xLcKE at ev
  split at ev
  · rename_i m h0 e1
    split at ev
    · rename_i kvs e2
      split at ev
      · rename_i m' h1 e3
        split at ev
        · rename_i em
          subst em
          split at ev
          · rename_i kvs1 e4
            split at ev
            · rename_i ys h2 e5
              split at ev
              · rename_i kvs' e6
                simp only [Option.some.injEq, Prod.mk.injEq] at ev
                obtain ⟨rfl, rfl⟩ := ev
                obtain ⟨d, hm⟩ : ∃ d, r[m']? = some d := by
                  have hl := (List.getElem?_eq_some_iff.mp e2).1
                  rw [← R.len] at hl
                  exact ⟨r[m'], List.getElem?_eq_getElem hl⟩
                have c0 := R.at_ m' d _ hm e2
                simp only [CRel] at c0
                obtain ⟨us, rd, q⟩ := c0
                refine ⟨d, .dK us, rd, True.intro, fun od => ?_⟩
                have St : Stp r w H r w (upd H d (.frz od (.dK us))) := Stp.lockK rd
                have R1 := R.lock (od := od) hm rd q
                refine ⟨r, w, s, _, _, h1, R1, S.map St, e3, fun r1 u1 H1 F1 R1' V1 => ?_⟩
                simp only [VR] at V1
                obtain ⟨d1, rfl, hm1⟩ := V1
                have hd1 : d1 = d := by
                  have := F1.at_ hm
                  rw [this] at hm1
                  exact (Option.some.inj hm1).symm
                subst hd1
                have fz : H1 d1 = some (.frz od (.dK us)) := F1.frz _ _ _ upd_same
                have c1 := R1'.at_ m' d1 _ hm1 e4
                simp only [CRel] at c1
                obtain ⟨od', us', rd', q'⟩ := c1
                rw [fz] at rd'
                cases rd'
                refine ⟨d1, od, us, rfl, fz, fun D hD => ?_⟩
                refine lc_vals (Q := fun v H' => H' d1 = some (.frz od (.dK us)) ∧ Q v (upd H' d1 (.dK us))) (walks_keys K fz q') tg R1' ((S.map St).fwd F1) hD e5 fun r2 p H2 F2 n R2 V2 => ?_
                obtain ⟨a1, a2⟩ := Fwd.relock rd (F1.tr R1' F2)
                have ne : p ≠ d1 := fun z => by rw [z, fz] at n; cases n
                have n0 := F1.free R1' p n
                have St2 := Stp.unlockK (r := r2) (w := p :: w) a1
                exact ⟨a1, C r2 p _ a2 (by rwa [upd_ne ne] at n0) (R2.unlock (F2.at_ hm1) a1 e6) (VF.map St2 (upd_ne ne) V2)⟩
              · cases ev
            · cases ev
          · cases ev
        · cases ev
      · cases ev
    · cases ev
  · cases ev
theorem mf_lcKE {e : Expr} {mo : XE} {apos cpos : Pos} {elt tg : Expr} {ifs : List Expr} {scope : Scope} {own : List (Str × Nat)} {gm : XG} {gt : TG} {c : XT} {me : XE} (hN : X.N.Nodup) (ho : ME X e mo) (ok : blkC X.N X.env.scope scope own = true) (tk : TgOk X.K (own.map (·.2)) gt gm)
    (hg : ∀ (s : Shared) (H : Hp) (C : Addr) (cl : List (Str × Addr)) (fp : List Addr), PG (X.blk s H scope (compEnvC scope cl C X.env) fp) tg gt)
    (ht : ∀ (s : Shared) (H : Hp) (C : Addr) (cl : List (Str × Addr)) (fp : List Addr), MTs (X.blk s H scope (compEnvC scope cl C X.env) fp) ifs c)
    (he : ∀ (s : Shared) (H : Hp) (C : Addr) (cl : List (Str × Addr)) (fp : List Addr), ME (X.blk s H scope (compEnvC scope cl C X.env) fp) elt me)
    (hs : ∀ x, foldedSetIterable (.Call (.Attribute e "keys" apos) [] [] cpos) X.env x = pure x := by intro _; rfl) (hc : X.calm = true := by rfl)
    (hbase : attributeBase e "keys" X.env (eval e X.env) = eval e X.env := by rfl) (hline : (apos.endLine == cpos.line) = true := by rfl) :
    MF X (.ListComp elt [⟨tg, .Call (.Attribute e "keys" apos) [] [] cpos, ifs, 0⟩] scope pos) (xLcKE mo gm c me (own.map (·.2))) := by
  have base : PE X (.ListComp elt [⟨tg, .Call (.Attribute e "keys" apos) [] [] cpos, ifs, 0⟩] scope pos) (tLc (iKeysM (tM X.K mo)) gt (tT X.K c) (tM X.K me) (own.map (·.2))) := pe_lc hc hN (pi_keysM (apos := apos) (cpos := cpos) ho hbase hline) (blkOk_by ok) hg ht he hs
  exact PE.wk (pe_lock base) (lcKE_wk tk)
variable {sts : List Stmt} {x : XS} {g : XG} {tg : Expr}
theorem ms_forKE {e : Expr} {mo : XE} {apos cpos : Pos} (ho : ME X e mo) (hg : MG X tg g) (hb : MSs X sts x)
    (hs : ∀ x, foldedSetIterable (.Call (.Attribute e "keys" apos) [] [] cpos) X.env x = pure x := by intro _; rfl) (hp : PassesOwn (model X.prog X.w) X.A X.env X.xe := by exact PassesOwn.never) (hc : X.calm = true := by rfl)
    (hbase : attributeBase e "keys" X.env (eval e X.env) = eval e X.env := by rfl) (hline : (apos.endLine == cpos.line) = true := by rfl) :
    MS X (.For tg (.Call (.Attribute e "keys" apos) [] [] cpos) sts [] pos) (sForKE mo g x) := by
  have base := ps_for (pos := pos) hp hc (pi_keysM (apos := apos) (cpos := cpos) ho hbase hline) hg hb
  refine PS.wk (ps_lock base) fun D z H ⟨r, w, s, h, f, s', h', R, S, ev, C⟩ => ?_
  unfold sForKE at ev
  split at ev
  · rename_i m h0 e1
    split at ev
    · rename_i kvs e2
      split at ev
      · rename_i m' h1 e3
        split at ev
        · rename_i em
          subst em
          split at ev
          · rename_i kvs1 e4
            split at ev
            · rename_i f1 s1 h2 e5
              split at ev
              · rename_i kvs' e6
                simp only [Option.some.injEq, Prod.mk.injEq] at ev
                obtain ⟨rfl, rfl, rfl⟩ := ev
                obtain ⟨d, hm⟩ : ∃ d, r[m']? = some d := by
                  have hl := (List.getElem?_eq_some_iff.mp e2).1
                  rw [← R.len] at hl
                  exact ⟨r[m'], List.getElem?_eq_getElem hl⟩
                have c0 := R.at_ m' d _ hm e2
                simp only [CRel] at c0
                obtain ⟨us, rd, q⟩ := c0
                refine ⟨d, .dK us, rd, True.intro, fun od => ?_⟩
                have St : Stp r w H r w (upd H d (.frz od (.dK us))) := Stp.lockK rd
                have R1 := R.lock (od := od) hm rd q
                refine ⟨r, w, s, _, _, h1, R1, S.map St, e3, fun r1 u1 H1 F1 R1' V1 => ?_⟩
                simp only [VR] at V1
                obtain ⟨d1, rfl, hm1⟩ := V1
                have hd1 : d1 = d := by
                  have := F1.at_ hm
                  rw [this] at hm1
                  exact (Option.some.inj hm1).symm
                subst hd1
                have fz : H1 d1 = some (.frz od (.dK us)) := F1.frz _ _ _ upd_same
                have c1 := R1'.at_ m' d1 _ hm1 e4
                simp only [CRel] at c1
                obtain ⟨od', us', rd', q'⟩ := c1
                rw [fz] at rd'
                cases rd'
                refine ⟨d1, od, us, rfl, fz, ?_⟩
                refine for_vals (tb := tS X.K x) (walks_keys X.K fz q') R1' ((S.map St).fwd F1) e5 ?_
                have back : ∀ {r2 : List Addr} {H2 : Hp}, Fwd r1 H1 r2 H2 → Rel X.K r2 w h2 H2 → H2 d1 = some (.frz od (.dK us)) ∧ Fwd r H r2 (upd H2 d1 (.dK us)) ∧ Stp r2 w H2 r2 w (upd H2 d1 (.dK us)) ∧ Rel X.K r2 w (h2.set m' (.dK kvs')) (upd H2 d1 (.dK us)) := fun {r2 H2} F R2 => by
                  obtain ⟨a1, a2⟩ := Fwd.relock rd (F1.tr R1' F)
                  exact ⟨a1, a2, Stp.unlockK a1, R2.unlock (F.at_ hm1) a1 e6⟩
                cases f1 <;> simp only [EndS] at C ⊢
                · exact fun r1 z1 H1 F R1 S1 => by obtain ⟨a1, a2, a3, a4⟩ := back F R1; exact ⟨a1, C r1 z1 _ a2 a4 (S1.map a3)⟩
                · exact fun r1 u1 H1 F R1 V1 => by obtain ⟨a1, a2, a3, a4⟩ := back F R1; exact ⟨a1, C r1 u1 _ a2 a4 (VR.map a3 _ _ V1)⟩
                · exact fun r1 z1 H1 F R1 S1 => by obtain ⟨a1, a2, a3, a4⟩ := back F R1; exact ⟨a1, C r1 z1 _ a2 a4 (S1.map a3)⟩
                · exact fun r1 z1 H1 F R1 S1 => by obtain ⟨a1, a2, a3, a4⟩ := back F R1; exact ⟨a1, C r1 z1 _ a2 a4 (S1.map a3)⟩
              · cases ev
            · cases ev
          · cases ev
        · cases ev
      · cases ev
    · cases ev
  · cases ev
end
section
variable [Tabs] {X : Cx} {pos : Pos} {e o : Expr} {m mo : XE}
theorem me_indexC {apos : Pos} (ho : ME X o mo) (he : ME X e m) (hbase : attributeBase o "index" X.env (eval o X.env) = eval o X.env := by rfl)
    (hfew : ((backTo pos (starEach [e] X.env)).all (fun x => !x.1) && (backToKw pos (keywordEach [] X.env)).all (fun x => x.1.isSome) && decide ([e].length + ([] : List Keyword).length + (if ([] : List Keyword).isEmpty then 0 else 1) < 30)) = true := by rfl)
    (hline : (apos.endLine == pos.line) = true := by rfl) (hs : starEach (e :: []) X.env = (false, eval e X.env) :: starEach [] X.env := by rfl) (hpl : (backTo pos (starEach [] X.env)).any (·.1) = false := by rfl) :
    ME X (.Call (.Attribute o "index" apos) [e] [] pos) (xIndexC mo m) := PE.wk (pe_bm PySem.F.plainAttrs_list PySem.F.slot_list_index PySem.F.type_list_index mt_index ho (pa_cons he pa_nil hs) hbase hfew hline hs hpl) fun z H Q ⟨r, w, s, h, v, h', R, S, e, C⟩ => by
  unfold xIndexC at e
  split at e
  · rename_i n h1 e1
    split at e
    · rename_i hl
      split at e
      · rename_i y h2 e2
        split at e
        · rename_i xs e3
          split at e
          · rename_i f
            rw [Bool.and_eq_true] at f
            split at e
            · rename_i j e5
              simp only [Option.some.injEq, Prod.mk.injEq] at e
              obtain ⟨rfl, rfl⟩ := e
              refine ⟨r, w, s, h, _, h1, R, S, e1, fun r1 u1 H1 F1 R1 V1 => ?_⟩
              obtain ⟨xs0, e4⟩ : ∃ xs0, h1[n]? = some (.lst xs0) := by
                unfold isLstC at hl
                split at hl
                · exact ⟨_, ‹_›⟩
                · cases hl
              obtain ⟨a, us, rfl, hn, ha, q⟩ := ref_at R1 V1 e4
              refine ⟨.inl ⟨rfl, us, SqL.of ha⟩, r1, w, s, h1, y, _, R1, S.fwd F1, e2, fun r2 u2 H2 F2 R2 V2 => ?_⟩
              have V3 := VR.fwd F2 _ _ V1
              obtain ⟨a', us', ea, hn', ha', q'⟩ := ref_at R2 V3 e3
              cases ea
              obtain ⟨z, g1, g2, g3⟩ := find_of e5
              obtain ⟨uz, g4, g5⟩ := VRs.get q' g1
              have fz : flatM z = true := List.all_eq_true.mp f.2 z (List.mem_of_getElem? g1)
              refine ⟨a, us', u2, j, uz, rfl, rfl, SqL.of ha', flat_of V2 f.1, flats_of q' f.2, g4, by rw [feq_of V2 g5 f.1 fz]; exact g2, fun m z' hm hz' => ?_, ((C.fwd F1 R1).fwd F2 R2).now R2 (by simp only [VR])⟩
              obtain ⟨y', g6, g7⟩ := VRs.back q' hz'
              rw [feq_of V2 g7 f.1 (List.all_eq_true.mp f.2 y' (List.mem_of_getElem? g6))]
              exact g3 m y' hm g6
            · cases e
          · cases e
        · cases e
      · cases e
    · cases e
  · cases e
end
section
variable [Tabs] {K : PySem.W.Frag} {X : Cx} {pos p fp : Pos} {e : Expr} {m : XE} {sts : List Stmt} {x : XS} {g : XG} {tg : Expr}
theorem for_rev {n N : Nat} {a : Addr} {D : Ends} {z : L2.St} {r w : List Addr} {s : SM} {h : MH} {H : Hp} {f : Fl} {s' : SM} {h' : MH} (hn : r[n]? = some a) (R : Rel K r w h H) (S : SR K r w H s z) (e : forRev g x n N s h = some (f, s', h')) (C : EndS K r w h' H s' D f) :
    ∃ W : Nat → Nat → L2.St → Hp → Prop, (∃ m, W 0 m z H) ∧ ∀ i m z H, W i m z H →
      ((Itv K a N).stop i H ∧ D.nx z H) ∨ ((Itv K a N).go i H ∧ ∃ Nx : L2.St → Hp → Prop, (∀ z' H', Nx z' H' → ∃ m', m' < m ∧ W (i + 1) m' z' H') ∧ ∀ u H', (Itv K a N).yld i H u H' → tG K g u z H' fun z2 H2 => tS K x { D with nx := Nx, ct := Nx, bk := D.nx } z2 H2) := by
  refine ⟨fun i k z1 H1 => k = N - i ∧ i ≤ N ∧ ∃ r1 s1 h1, Fwd r H r1 H1 ∧ Rel K r1 w h1 H1 ∧ SR K r1 w H1 s1 z1 ∧ forRev g x n (N - i) s1 h1 = some (f, s', h'),
    ⟨_, rfl, Nat.zero_le _, r, s, h, Fwd.refl r H, R, S, e⟩, ?_⟩
  rintro i k z1 H1 ⟨rfl, hi, r1, s1, h1, F1, R1, S1, e1⟩
  cases hk : N - i with
  | zero =>
    rw [hk] at e1
    simp only [forRev, Option.some.injEq, Prod.mk.injEq] at e1
    obtain ⟨rfl, rfl, rfl⟩ := e1
    exact .inl ⟨show N ≤ i by omega, C r1 z1 H1 F1 R1 S1⟩
  | succ k =>
    rw [hk] at e1
    simp only [forRev] at e1
    split at e1
    · rename_i ys e2
      cases e3 : ys[k]? with
      | none => simp [e3] at e1
      | some v =>
        simp only [e3] at e1
        have c0 := R1.at_ n a _ (F1.at_ hn) e2
        simp only [CRel] at c0
        obtain ⟨us, ha, q⟩ := c0
        obtain ⟨u0, q1, q2⟩ := VRs.get q e3
        have ek : N - 1 - i = k := by omega
        refine .inr ⟨⟨by omega, us, u0, SqL.of ha, by rw [ek]; exact q1⟩, fun z2 H2 => ∃ r2 s2 h2, Fwd r H r2 H2 ∧ Rel K r2 w h2 H2 ∧ SR K r2 w H2 s2 z2 ∧ forRev g x n k s2 h2 = some (f, s', h'), fun z2 H2 q => ⟨k, Nat.lt_succ_self k, by omega, by omega, by rw [show N - (i + 1) = k by omega]; exact q⟩, fun u H2 hy => ?_⟩
        obtain ⟨eH, hx⟩ := hy
        subst eH
        have eu := hx us (SqL.of ha)
        rw [ek, q1] at eu
        cases eu
        cases e4 : g v s1 h1 with
        | none => simp [e4] at e1
        | some p2 =>
          obtain ⟨s3, h3⟩ := p2
          simp only [e4] at e1
          refine ⟨r1, w, s1, h1, v, s3, h3, R1, S1, q2, e4, fun r3 z3 H3 F3 R3 S3 => ?_⟩
          have F13 := F1.tr R1 F3
          split at e1
          · rename_i s4 h4 e4
            exact ⟨r3, w, s3, h3, .nx, s4, h4, R3, S3, e4, fun r4 z4 H4 F4 R4 S4 => ⟨r4, s4, h4, F13.tr R3 F4, R4, S4, e1⟩⟩
          · rename_i s4 h4 e4
            exact ⟨r3, w, s3, h3, .ct, s4, h4, R3, S3, e4, fun r4 z4 H4 F4 R4 S4 => ⟨r4, s4, h4, F13.tr R3 F4, R4, S4, e1⟩⟩
          · rename_i s4 h4 e4
            simp only [Option.some.injEq, Prod.mk.injEq] at e1
            obtain ⟨rfl, rfl, rfl⟩ := e1
            exact ⟨r3, w, s3, h3, .bk, s4, h4, R3, S3, e4, ContS.fwd C F13 R3⟩
          · rename_i v4 s4 h4 e4
            simp only [Option.some.injEq, Prod.mk.injEq] at e1
            obtain ⟨rfl, rfl, rfl⟩ := e1
            exact ⟨r3, w, s3, h3, .rt v4, s4, h4, R3, S3, e4, Cont.fwd C F13 R3⟩
          · cases e1
    · cases e1
theorem ms_forRevC (hm : X.mg "reversed" = none) (he : ME X e m) (hg : MG X tg g) (hb : MSs X sts x) (hgl : Gl X "reversed" := by rfl) (hs : starEach [e] X.env = (false, eval e X.env) :: starEach [] X.env := by rfl)
    (hs2 : ∀ x, foldedSetIterable (.Call (.Name "reversed" p) [e] [] pos) X.env x = pure x := by intro _; rfl) (hp : PassesOwn (model X.prog X.w) X.A X.env X.xe := by exact PassesOwn.never) (hc : X.calm = true := by rfl) :
    MS X (.For tg (.Call (.Name "reversed" p) [e] [] pos) sts [] fp) (sForRevC m g x) := PS.wk (ps_for hp hc (RT.pi_revA hgl hm he hs) hg hb hs2) fun D z H ⟨r, w, s, h, f, s', h', R, S, ev, C⟩ => by
  unfold sForRevC at ev
  split at ev
  · rename_i n h1 e1
    split at ev
    · rename_i xs e2
      refine ⟨r, w, s, h, _, h1, R, S, e1, fun r1 u1 H1 F1 R1 V1 => ?_⟩
      obtain ⟨a, us, rfl, hn, ha, q⟩ := ref_at R1 V1 e2
      rw [VRs.length q] at ev
      exact ⟨a, us, rfl, .inl ⟨SqL.of ha, for_rev hn R1 (S.fwd F1) ev (EndS.fwd C F1 R1)⟩⟩
    · cases ev
  · cases ev
end
end Ew
end

section
set_option Elab.async false
set_option linter.all false
set_option maxRecDepth 100000
set_option maxHeartbeats 4000000
/-! EwPR: three names stored at once. -/
namespace Ew
open PySem PySem.Spec PyProof.Rows L2
variable [Tabs]
section
variable {K : PySem.W.Frag} {X : Cx} {a b c : Expr} {ma mb mc : XE} {pos : Pos}
theorem ms_par3 {n1 n2 n3 : Nat} {t1 t2 t3 : Str} {px py pz pt : Pos} {kt k2 pt2} (hN : X.N.Nodup) (ha : ME X a ma) (hb : ME X b mb) (hd : ME X c mc) (hi : X.N[n1]? = some t1 := by rfl) (hj : X.N[n2]? = some t2 := by rfl) (hk : X.N[n3]? = some t3 := by rfl) (hij : n1 ≠ n2 := by decide) (hil : n1 ≠ n3 := by decide) (hjl : n2 ≠ n3 := by decide)
    (hx : X.env.scope.names.lookup t1 = some .local := by rfl) (hy : X.env.scope.names.lookup t2 = some .local := by rfl) (hz : X.env.scope.names.lookup t3 = some .local := by rfl)
    (he1 : starEach [a, b, c] X.env = (false, eval a X.env) :: starEach [b, c] X.env := by rfl) (he2 : starEach [b, c] X.env = (false, eval b X.env) :: starEach [c] X.env := by rfl) (he3 : starEach [c] X.env = (false, eval c X.env) :: starEach [] X.env := by rfl)
    (hw : swappedStores [.Tuple [.Name t1 px, .Name t2 py, .Name t3 pz] kt pt] (.Tuple [a, b, c] k2 pt2) X.env = pure (some [t1, t2, t3]) := by rfl)
    (hs : swapsWithSole [.Tuple [.Name t1 px, .Name t2 py, .Name t3 pz] kt pt] (.Tuple [a, b, c] k2 pt2) pos.line X.env = pure false := by rfl) (hc : X.calm = true := by rfl) :
    MS X (.Assign [.Tuple [.Name t1 px, .Name t2 py, .Name t3 pz] kt pt] (.Tuple [a, b, c] k2 pt2) pos) (sPar3 n1 n2 n3 ma mb mc) := PS.wk (ps_par3 hc hN hi hj hk hij hil hjl hx hy hz (pa_cons ha (pa_cons hb (pa_cons hd pa_nil he3) he2) he1) hw hs) fun D z H ⟨r, w, s, h, f, s', h', R, S, e, C⟩ => by
  unfold sPar3 at e
  cases e1 : ma s h with
  | none => simp [e1] at e
  | some p1 =>
    obtain ⟨v, h1⟩ := p1
    simp only [e1] at e
    cases e2 : mb s h1 with
    | none => simp [e2] at e
    | some p2 =>
      obtain ⟨v2, h2⟩ := p2
      simp only [e2] at e
      cases e3 : mc s h2 with
      | none => simp [e3] at e
      | some p3 =>
        obtain ⟨v3, h3⟩ := p3
        simp only [e3, Option.some.injEq, Prod.mk.injEq] at e
        obtain ⟨rfl, rfl, rfl⟩ := e
        exact ⟨r, w, s, h, v, h1, R, S, e1, fun r1 u1 H1 F1 R1 V1 => ⟨r1, w, s, h1, v2, h2, R1, S.fwd F1, e2, fun r2 u2 H2 F2 R2 V2 => ⟨r2, w, s, h2, v3, h3, R2, (S.fwd F1).fwd F2, e3, fun r3 u3 H3 F3 R3 V3 => ⟨u1, u2, u3, rfl, C r3 _ H3 ((F1.tr R1 F2).tr R2 F3) R3 (((((S.fwd F1).fwd F2).fwd F3).set n1 (VR.fwd F3 _ _ (VR.fwd F2 _ _ V1))).set n2 (VR.fwd F3 _ _ V2) |>.set n3 V3)⟩⟩⟩⟩
end
end Ew
end

section
set_option linter.all false
set_option maxRecDepth 100000
/-! EwT: plain lemmas of the small machine: loops, numbers, data. -/
namespace Ew
open PySem (Str)
/-! ### composing -/
theorem seq_nx {a b : XS} {s s1 : SM} {h h1 : MH} (e : a s h = some (.nx, s1, h1)) : sSeq a b s h = b s1 h1 := by simp only [sSeq, e]
theorem seq_rt {a b : XS} {s s1 : SM} {h h1 : MH} {v : MV} (e : a s h = some (.rt v, s1, h1)) : sSeq a b s h = some (.rt v, s1, h1) := by simp only [sSeq, e]
theorem for_at {it : XI} {g : XG} {b : XS} {s : SM} {h h1 : MH} {xs : List MV} (e : it s h = some (.vals xs, h1)) : sFor it g b s h = forGo g b xs s h1 := by simp only [sFor, e]
theorem run_rt {n : Nat} {b : XS} {vs : List MV} {h h1 : MH} {s : SM} {v : MV} (e : b (sBegin n vs) h = some (.rt v, s, h1)) : runDef n b vs h = some (v, h1) := by simp only [runDef, e]
theorem run_nx {n : Nat} {b : XS} {vs : List MV} {h h1 : MH} {s : SM} (e : b (sBegin n vs) h = some (.nx, s, h1)) : runDef n b vs h = some (.non, h1) := by simp only [runDef, e]
theorem lc_at {it : XI} {g : XG} {c : XT} {e : XE} {own : List Nat} {s : SM} {h h1 h2 : MH} {xs ys : List MV} (e1 : it s h = some (.vals xs, h1)) (e2 : lcGo g c e [] xs (wipeM s own) h1 = some (ys, h2)) : xLc it g c e own s h = some (.lst ys, h2) := by simp only [xLc, e1, e2]
theorem lcK_at {n : Nat} {g : XG} {c : XT} {e : XE} {own : List Nat} {s : SM} {h h2 : MH} {kvs : List (MK × MV)} {ys : List MV} (e1 : s[n]? = some (some (.dK kvs))) (e2 : lcGo g c e [] (kvs.map fun kv => keyV kv.1) (wipeM s own) h = some (ys, h2)) : xLcK n g c e own s h = some (.lst ys, h2) := by simp only [xLcK, e1, e2]
theorem ret_at {e : XE} {s : SM} {h h1 : MH} {v : MV} (e1 : e s h = some (v, h1)) : sRet e s h = some (.rt v, s, h1) := by simp only [sRet, e1]
theorem set_at {i : Nat} {e : XE} {s : SM} {h h1 : MH} {v : MV} (e1 : e s h = some (v, h1)) : sAsg e (gNm i) s h = some (.nx, s.set i (some v), h1) := by simp only [sAsg, gNm, e1]
theorem rng1_at {e : XE} {s : SM} {h h1 : MH} {j : Int} (e1 : e s h = some (.int j, h1)) (hj : -4611686018427387904 ≤ j ∧ j < 4611686018427387904) : iRange1 e s h = some (.vals (rngM 0 j.toNat), h1) := by
  have q : (-(2 ^ 62) ≤ j ∧ j < 2 ^ 62) := by omega
  simp only [iRange1, e1]
  rw [if_pos q]
theorem forK_at {n : Nat} {g : XG} {b : XS} {s : SM} {h : MH} {kvs : List (MK × MV)} (e1 : s[n]? = some (some (.dK kvs))) : sForK n g b s h = forGo g b (kvs.map fun kv => keyV kv.1) s h := by simp only [sForK, e1]
theorem un_at {f : MH → MV → Option MV} {a : XE} {s : SM} {h h1 : MH} {x v : MV} (e1 : a s h = some (x, h1)) (e2 : f h1 x = some v) : xUn f a s h = some (v, h1) := by simp only [xUn, e1, e2]
theorem op_at {f : MH → MV → MV → Option MV} {a b : XE} {s : SM} {h h1 h2 : MH} {x y v : MV} (e1 : a s h = some (x, h1)) (e2 : b s h1 = some (y, h2)) (e3 : f h2 x y = some v) : xOp f a b s h = some (v, h2) := by simp only [xOp, e1, e2, e3]
theorem args1_at {f : MH → List MV → Option MV} {a : XE} {s : SM} {h h1 : MH} {x v : MV} (e1 : a s h = some (x, h1)) (e2 : f h1 [x] = some v) : xArgs f (xCons a xNil) s h = some (v, h1) := by simp only [xArgs, xCons, xNil, e1, e2]
theorem box_at {e : XE} {s : SM} {h h1 : MH} {xs : List MV} (e1 : e s h = some (.lst xs, h1)) : xBox e s h = some (.ref h1.length, h1 ++ [.lst xs]) := by simp only [xBox, boxM, e1]
theorem if_t {c : XT} {a b : XS} {s : SM} {h h1 : MH} (e : c s h = some (true, h1)) : sIf c a b s h = a s h1 := by simp only [sIf, e]
theorem if_f {c : XT} {a b : XS} {s : SM} {h h1 : MH} (e : c s h = some (false, h1)) : sIf c a b s h = b s h1 := by simp only [sIf, e]
theorem ifN_t {x : XE} {b : XS} {s : SM} {h h1 : MH} (e : x s h = some (.bl true, h1)) : sIf (xNotT (xB x)) b sNext s h = some (.nx, s, h1) := by simp only [sIf, xNotT, xB, e, Bool.not_true, sNext]
theorem ifN_f {x : XE} {v : MV} {s : SM} {h h1 : MH} (e : x s h = some (.bl false, h1)) : sIf (xNotT (xB x)) (sRet (xC v)) sNext s h = some (.rt v, s, h1) := by simp only [sIf, xNotT, xB, e, Bool.not_false, sRet, xC]
theorem if_nx {x : XE} {b : XS} {s : SM} {h h1 : MH} (e : x s h = some (.bl false, h1)) : sIf (xB x) b sNext s h = some (.nx, s, h1) := by simp only [sIf, xB, e, sNext]
theorem if_rt {x : XE} {v : MV} {s : SM} {h h1 : MH} (e : x s h = some (.bl true, h1)) : sIf (xB x) (sRet (xC v)) sNext s h = some (.rt v, s, h1) := by simp only [sIf, xB, e, sRet, xC]
theorem xB_at {x : XE} {k : Bool} {s : SM} {h h1 : MH} (e : x s h = some (.bl k, h1)) : xB x s h = some (k, h1) := by simp only [xB, e]
theorem and_t {x y : XE} {s : SM} {h h1 : MH} (e : x s h = some (.bl true, h1)) : xAnd x y s h = y s h1 := by simp only [xAnd, e]
theorem and_f {x y : XE} {s : SM} {h h1 : MH} (e : x s h = some (.bl false, h1)) : xAnd x y s h = some (.bl false, h1) := by simp only [xAnd, e]
theorem call_1 {g : Fn} {i : Nat} {x : MV} {s : SM} {h : MH} (e1 : s[i]? = some (some x)) : xCall g (xCons (xVar i) xNil) s h = g [x] h := by simp only [xCall, xCons, xNil, xVar, e1]
theorem call_2 {g : Fn} {i j : Nat} {x y : MV} {s : SM} {h : MH} (e1 : s[i]? = some (some x)) (e2 : s[j]? = some (some y)) : xCall g (xCons (xVar i) (xCons (xVar j) xNil)) s h = g [x, y] h := by simp only [xCall, xCons, xNil, xVar, e1, e2]
theorem call_3 {g : Fn} {i j k : Nat} {x y z : MV} {s : SM} {h : MH} (e1 : s[i]? = some (some x)) (e2 : s[j]? = some (some y)) (e3 : s[k]? = some (some z)) : xCall g (xCons (xVar i) (xCons (xVar j) (xCons (xVar k) xNil))) s h = g [x, y, z] h := by simp only [xCall, xCons, xNil, xVar, e1, e2, e3]
theorem call_4 {g : Fn} {i j k l : Nat} {x y z w : MV} {s : SM} {h : MH} (e1 : s[i]? = some (some x)) (e2 : s[j]? = some (some y)) (e3 : s[k]? = some (some z)) (e4 : s[l]? = some (some w)) : xCall g (xCons (xVar i) (xCons (xVar j) (xCons (xVar k) (xCons (xVar l) xNil)))) s h = g [x, y, z, w] h := by simp only [xCall, xCons, xNil, xVar, e1, e2, e3, e4]
/-! ### loops -/
/-- a walk that ends by itself -/
theorem forGo_run {g : XG} {b : XS} (I : Nat → SM → MH → Prop) (xs : List MV) (k : Nat) (s : SM) (h : MH) (h0 : I k s h)
    (step : ∀ i x s h, xs[i]? = some x → I (k + i) s h → ∃ s1 h1 f s2 h2, g x s h = some (s1, h1) ∧ b s1 h1 = some (f, s2, h2) ∧ (f = .nx ∨ f = .ct) ∧ I (k + i + 1) s2 h2) :
    ∃ s' h', forGo g b xs s h = some (.nx, s', h') ∧ I (k + xs.length) s' h' := by
  induction xs generalizing k s h with
  | nil => exact ⟨s, h, rfl, h0⟩
  | cons x xs ih =>
    obtain ⟨s1, h1, f, s2, h2, e1, e2, hf, i2⟩ := step 0 x s h rfl h0
    obtain ⟨s', h', e3, i3⟩ := ih (k + 1) s2 h2 i2 (fun i y s h ey hi => by
      have := step (i + 1) y s h ey (by rw [show k + (i + 1) = k + 1 + i by omega]; exact hi)
      rw [show k + (i + 1) + 1 = k + 1 + i + 1 by omega] at this
      exact this)
    refine ⟨s', h', ?_, by rw [List.length_cons, show k + (xs.length + 1) = k + 1 + xs.length by omega]; exact i3⟩
    rcases hf with rfl | rfl <;> simp only [forGo, e1, e2, e3]
/-- a walk that may end early: at each turn it goes on with I or ends with E -/
theorem forGo_ret {g : XG} {b : XS} (I : Nat → SM → MH → Prop) (E : Fl → SM → MH → Prop) (xs : List MV) (k : Nat) (s : SM) (h : MH) (h0 : I k s h) (fin : ∀ s h, I (k + xs.length) s h → E .nx s h)
    (step : ∀ i x s h, xs[i]? = some x → I (k + i) s h → ∃ s1 h1 f s2 h2, g x s h = some (s1, h1) ∧ b s1 h1 = some (f, s2, h2) ∧ (((f = .nx ∨ f = .ct) ∧ I (k + i + 1) s2 h2) ∨ (f = .bk ∧ E .nx s2 h2) ∨ ∃ v, f = .rt v ∧ E (.rt v) s2 h2)) :
    ∃ f s' h', forGo g b xs s h = some (f, s', h') ∧ E f s' h' := by
  induction xs generalizing k s h with
  | nil => exact ⟨.nx, s, h, rfl, fin s h h0⟩
  | cons x xs ih =>
    obtain ⟨s1, h1, f, s2, h2, e1, e2, c⟩ := step 0 x s h rfl h0
    rcases c with ⟨hf, i2⟩ | ⟨rfl, q⟩ | ⟨v, rfl, q⟩
    · obtain ⟨f3, s', h', e3, i3⟩ := ih (k + 1) s2 h2 i2 (fun s h hi => fin s h (by rw [List.length_cons, show k + (xs.length + 1) = k + 1 + xs.length by omega]; exact hi)) (fun i y s h ey hi => by
        have := step (i + 1) y s h ey (by rw [show k + (i + 1) = k + 1 + i by omega]; exact hi)
        rw [show k + (i + 1) + 1 = k + 1 + i + 1 by omega] at this
        exact this)
      refine ⟨f3, s', h', ?_, i3⟩
      rcases hf with rfl | rfl <;> simp only [forGo, e1, e2, e3]
    · exact ⟨.nx, s2, h2, by simp only [forGo, e1, e2], q⟩
    · exact ⟨.rt v, s2, h2, by simp only [forGo, e1, e2], q⟩
theorem whileGo_mono {c : XT} {b : XS} : ∀ (n : Nat) (s : SM) (h : MH) (r : Fl × SM × MH), whileGo c b n s h = some r → whileGo c b (n + 1) s h = some r
  | 0, s, h, r, e => by simp [whileGo] at e
  | n + 1, s, h, r, e => by
    rw [whileGo] at e ⊢
    cases e1 : c s h with
    | none => simp only [e1] at e; cases e
    | some p =>
      obtain ⟨k, h1⟩ := p
      cases k with
      | false => simp only [e1] at e ⊢; exact e
      | true =>
        simp only [e1] at e ⊢
        cases e2 : b s h1 with
        | none => simp only [e2] at e; cases e
        | some q =>
          obtain ⟨f, s2, h2⟩ := q
          cases f with
          | nx => simp only [e2] at e ⊢; exact whileGo_mono n s2 h2 r e
          | ct => simp only [e2] at e ⊢; exact whileGo_mono n s2 h2 r e
          | bk => simp only [e2] at e ⊢; exact e
          | rt v => simp only [e2] at e ⊢; exact e
/-- a loop that ends by its test -/
theorem sWhile_run {c : XT} {b : XS} (I E : SM → MH → Prop) (mu : SM → MH → Nat)
    (st : ∀ s h, I s h → (∃ h1, c s h = some (false, h1) ∧ E s h1) ∨ ∃ h1 f s2 h2, c s h = some (true, h1) ∧ b s h1 = some (f, s2, h2) ∧ (f = .nx ∨ f = .ct) ∧ I s2 h2 ∧ mu s2 h2 < mu s h)
    (s : SM) (h : MH) (h0 : I s h) : ∃ s' h', sWhile c b s h = some (.nx, s', h') ∧ E s' h' := by
  have key : ∀ (k : Nat) (s : SM) (h : MH), mu s h < k → I s h → ∃ n s' h', whileGo c b n s h = some (.nx, s', h') ∧ E s' h' := fun k => by
    induction k with
    | zero => exact fun s h hk => absurd hk (Nat.not_lt_zero _)
    | succ k ih =>
      intro s h hk hi
      rcases st s h hi with ⟨h1, e1, q⟩ | ⟨h1, f, s2, h2, e1, e2, hf, i2, m2⟩
      · exact ⟨1, s, h1, by simp only [whileGo, e1], q⟩
      · obtain ⟨n, s', h', e3, q⟩ := ih s2 h2 (by omega) i2
        refine ⟨n + 1, s', h', ?_, q⟩
        rcases hf with rfl | rfl <;> simp only [whileGo, e1, e2, e3]
  obtain ⟨n, s', h', e, q⟩ := key (mu s h + 1) s h (Nat.lt_succ_self _) h0
  exact ⟨s', h', fuel_of (fun n r e => whileGo_mono n s h r e) e, q⟩
/-- .. or by a return, a break -/
theorem sWhile_ret {c : XT} {b : XS} (I : SM → MH → Prop) (E : Fl → SM → MH → Prop) (mu : SM → MH → Nat)
    (st : ∀ s h, I s h → (∃ h1, c s h = some (false, h1) ∧ E .nx s h1) ∨ ∃ h1 f s2 h2, c s h = some (true, h1) ∧ b s h1 = some (f, s2, h2) ∧ (((f = .nx ∨ f = .ct) ∧ I s2 h2 ∧ mu s2 h2 < mu s h) ∨ (f = .bk ∧ E .nx s2 h2) ∨ ∃ v, f = .rt v ∧ E (.rt v) s2 h2))
    (s : SM) (h : MH) (h0 : I s h) : ∃ f s' h', sWhile c b s h = some (f, s', h') ∧ E f s' h' := by
  have key : ∀ (k : Nat) (s : SM) (h : MH), mu s h < k → I s h → ∃ n f s' h', whileGo c b n s h = some (f, s', h') ∧ E f s' h' := fun k => by
    induction k with
    | zero => exact fun s h hk => absurd hk (Nat.not_lt_zero _)
    | succ k ih =>
      intro s h hk hi
      rcases st s h hi with ⟨h1, e1, q⟩ | ⟨h1, f, s2, h2, e1, e2, ⟨hf, i2, m2⟩ | ⟨rfl, q⟩ | ⟨v, rfl, q⟩⟩
      · exact ⟨1, .nx, s, h1, by simp only [whileGo, e1], q⟩
      · obtain ⟨n, f3, s', h', e3, q⟩ := ih s2 h2 (by omega) i2
        refine ⟨n + 1, f3, s', h', ?_, q⟩
        rcases hf with rfl | rfl <;> simp only [whileGo, e1, e2, e3]
      · exact ⟨1, .nx, s2, h2, by simp only [whileGo, e1, e2], q⟩
      · exact ⟨1, .rt v, s2, h2, by simp only [whileGo, e1, e2], q⟩
  obtain ⟨n, f, s', h', e, q⟩ := key (mu s h + 1) s h (Nat.lt_succ_self _) h0
  exact ⟨f, s', h', fuel_of (fun n r e => whileGo_mono n s h r e) e, q⟩
/-- a comprehension that keeps every turn -/
theorem lcGo_map {g : XG} {c : XT} {e : XE} {s : SM} {h : MH} (f : MV → MV) (xs acc : List MV) (hz : acc.length + xs.length ≤ szLine)
    (step : ∀ x ∈ xs, ∃ s1, g x s h = some (s1, h) ∧ c s1 h = some (true, h) ∧ e s1 h = some (f x, h)) : lcGo g c e acc xs s h = some (acc ++ xs.map f, h) := by
  induction xs generalizing acc with
  | nil => simp [lcGo]
  | cons x xs ih =>
    obtain ⟨s1, e1, e2, e3⟩ := step x List.mem_cons_self
    have hl : acc.length < szLine := by simp only [List.length_cons] at hz; omega
    simp only [lcGo, e1, e2, e3, hl, if_true]
    rw [ih (acc ++ [f x]) (by simp only [List.length_append, List.length_cons, List.length_nil] at hz ⊢; omega) (fun y hy => step y (List.mem_cons_of_mem _ hy))]
    simp
/-! ### numbers -/
theorem log2_lt {i : Int} (h0 : -1606938044258990275541962092341162602522202993782792835301376 < i) (h1 : i < 1606938044258990275541962092341162602522202993782792835301376) : i.natAbs.log2 < 200 := by
  by_cases q : i.natAbs = 0
  · rw [q]; decide
  · exact (Nat.log2_lt q).mpr (by have : (2 : Nat) ^ 200 = 1606938044258990275541962092341162602522202993782792835301376 := by decide
                                  omega)
theorem mul_ok {h : MH} {i j : Int} (a0 : -1606938044258990275541962092341162602522202993782792835301376 < i) (a1 : i < 1606938044258990275541962092341162602522202993782792835301376) (b0 : -1606938044258990275541962092341162602522202993782792835301376 < j) (b1 : j < 1606938044258990275541962092341162602522202993782792835301376) : opMul h (.int i) (.int j) = some (.int (i * j)) := by
  have := log2_lt a0 a1
  have := log2_lt b0 b1
  simp only [opMul]
  rw [if_pos (by omega)]
theorem div_ok {h : MH} {i j : Int} (b0 : 0 < j) (b1 : j < 1606938044258990275541962092341162602522202993782792835301376) : opDiv h (.int i) (.int j) = some (.int (i / j)) := by
  have := log2_lt (i := j) (by omega) b1
  simp only [opDiv]
  rw [if_pos ⟨b0, by omega⟩]
theorem mod_ok {h : MH} {i j : Int} (b0 : 0 < j) : opMod h (.int i) (.int j) = some (.int (i % j)) := by
  simp only [opMod]
  rw [if_pos b0]
/-! ### data -/
theorem isDs_ints (n : Nat) : ∀ xs : List Int, isDs n (xs.map .int) = true
  | [] => by simp [isDs]
  | x :: xs => by simp [isDs, isD, isDs_ints n xs]
theorem isD_ints (n : Nat) (xs : List Int) : isD (n + 1) (.lst (xs.map .int)) = true := by simp only [isD]; exact isDs_ints n xs
theorem eqDs_ints : ∀ xs ys : List Int, eqDs (xs.map .int) (ys.map .int) = (xs == ys)
  | [], [] => by simp [eqDs]
  | [], _ :: _ => by simp [eqDs]
  | _ :: _, [] => by simp [eqDs]
  | x :: xs, y :: ys => by simp [eqDs, eqD, eqDs_ints xs ys]
theorem eq_cell {h : MH} {d : Nat} {xs : List Int} (ys : List Int) (e : h[d]? = some (.lst (xs.map .int))) : opEq h (.ref d) (.lst (ys.map .int)) = some (.bl (xs == ys)) := by
  simp only [opEq, dictK, e, opEq0, eqM, rdM, isD_ints 59, eqD, eqDs_ints, Bool.and_self, if_true, Option.map_some]
theorem ne_cell {h : MH} {d : Nat} {xs : List Int} (ys : List Int) (e : h[d]? = some (.lst (xs.map .int))) : opNe h (.ref d) (.lst (ys.map .int)) = some (.bl (!(xs == ys))) := by
  simp only [opNe, dictK, e, opNe0, eqM, rdM, isD_ints 59, eqD, eqDs_ints, Bool.and_self, if_true, Option.map_some]
theorem eq_lst (h : MH) (xs ys : List Int) : opEq h (.lst (xs.map .int)) (.lst (ys.map .int)) = some (.bl (xs == ys)) := by
  simp only [opEq, dictK, opEq0, eqM, rdM, isD_ints 59, eqD, eqDs_ints, Bool.and_self, if_true, Option.map_some]
theorem ne_lst (h : MH) (xs ys : List Int) : opNe h (.lst (xs.map .int)) (.lst (ys.map .int)) = some (.bl (!(xs == ys))) := by
  simp only [opNe, dictK, opNe0, eqM, rdM, isD_ints 59, eqD, eqDs_ints, Bool.and_self, if_true, Option.map_some]
theorem isD_tints (n : Nat) (xs : List Int) : isD (n + 1) (.tup (xs.map .int)) = true := by simp only [isD]; exact isDs_ints n xs
theorem eq_tup (h : MH) (xs ys : List Int) : opEq h (.tup (xs.map .int)) (.tup (ys.map .int)) = some (.bl (xs == ys)) := by
  simp only [opEq, dictK, opEq0, eqM, rdM, isD_tints 59, eqD, eqDs_ints, Bool.and_self, if_true, Option.map_some]
theorem ne_tup (h : MH) (xs ys : List Int) : opNe h (.tup (xs.map .int)) (.tup (ys.map .int)) = some (.bl (!(xs == ys))) := by
  simp only [opNe, dictK, opNe0, eqM, rdM, isD_tints 59, eqD, eqDs_ints, Bool.and_self, if_true, Option.map_some]
theorem get_last {h : MH} {c : MC} : (h ++ [c])[h.length]? = some c := by simp
theorem set_last {h : MH} {c d : MC} : (h ++ [c]).set h.length d = h ++ [d] := by simp
theorem set_same {h : MH} {n : Nat} {c : MC} (e : h[n]? = some c) : h.set n c = h := by
  obtain ⟨hl, e⟩ := List.getElem?_eq_some_iff.mp e
  subst e
  exact List.set_getElem_self hl
theorem rng_at {lo : Int} {n i : Nat} {x : MV} (e : (rngM lo n)[i]? = some x) : x = .int (lo + (i : Nat)) ∧ i < n := by
  unfold rngM at e
  rw [List.getElem?_map] at e
  by_cases q : i < n
  · rw [List.getElem?_range q] at e
    cases e
    exact ⟨rfl, q⟩
  · rw [List.getElem?_eq_none (by simpa using q)] at e
    cases e
theorem rng_len {lo : Int} {n : Nat} : (rngM lo n).length = n := by simp [rngM]
theorem map_at {α β : Type} {f : α → β} {xs : List α} {i : Nat} : (xs.map f)[i]? = xs[i]?.map f := List.getElem?_map
theorem ix_nat {n i : Nat} (h : i < n) : ixM n (i : Int) = some i := by
  unfold ixM
  rw [if_pos (by omega), if_pos (by omega)]
  rfl
theorem at_nat {xs : List MV} {i : Nat} {v : MV} (e : xs[i]? = some v) : atM xs (i : Int) = some v := by
  unfold atM
  rw [ix_nat (List.getElem?_eq_some_iff.mp e).1]
  exact e
theorem ix_lst {h : MH} {xs : List MV} {i : Int} {v : MV} (e : atM xs i = some v) : opIx h (.lst xs) (.int i) = some v := by
  simp only [opIx, seqOf, listOf]
  exact e
theorem st_NoneType_bool : subTy "NoneType" "bool" = false := rfl
theorem st_NoneType_int : subTy "NoneType" "int" = false := rfl
theorem st_NoneType_str : subTy "NoneType" "str" = false := rfl
theorem st_NoneType_tuple : subTy "NoneType" "tuple" = false := rfl
theorem st_NoneType_list : subTy "NoneType" "list" = false := rfl
theorem st_NoneType_dict : subTy "NoneType" "dict" = false := rfl
theorem st_bool_bool : subTy "bool" "bool" = true := rfl
theorem st_bool_int : subTy "bool" "int" = true := rfl
theorem st_bool_str : subTy "bool" "str" = false := rfl
theorem st_bool_tuple : subTy "bool" "tuple" = false := rfl
theorem st_bool_list : subTy "bool" "list" = false := rfl
theorem st_bool_dict : subTy "bool" "dict" = false := rfl
theorem st_int_bool : subTy "int" "bool" = false := rfl
theorem st_int_int : subTy "int" "int" = true := rfl
theorem st_int_str : subTy "int" "str" = false := rfl
theorem st_int_tuple : subTy "int" "tuple" = false := rfl
theorem st_int_list : subTy "int" "list" = false := rfl
theorem st_int_dict : subTy "int" "dict" = false := rfl
theorem st_str_bool : subTy "str" "bool" = false := rfl
theorem st_str_int : subTy "str" "int" = false := rfl
theorem st_str_str : subTy "str" "str" = true := rfl
theorem st_str_tuple : subTy "str" "tuple" = false := rfl
theorem st_str_list : subTy "str" "list" = false := rfl
theorem st_str_dict : subTy "str" "dict" = false := rfl
theorem st_tuple_bool : subTy "tuple" "bool" = false := rfl
theorem st_tuple_int : subTy "tuple" "int" = false := rfl
theorem st_tuple_str : subTy "tuple" "str" = false := rfl
theorem st_tuple_tuple : subTy "tuple" "tuple" = true := rfl
theorem st_tuple_list : subTy "tuple" "list" = false := rfl
theorem st_tuple_dict : subTy "tuple" "dict" = false := rfl
theorem st_list_bool : subTy "list" "bool" = false := rfl
theorem st_list_int : subTy "list" "int" = false := rfl
theorem st_list_str : subTy "list" "str" = false := rfl
theorem st_list_tuple : subTy "list" "tuple" = false := rfl
theorem st_list_list : subTy "list" "list" = true := rfl
theorem st_list_dict : subTy "list" "dict" = false := rfl
theorem st_dict_bool : subTy "dict" "bool" = false := rfl
theorem st_dict_int : subTy "dict" "int" = false := rfl
theorem st_dict_str : subTy "dict" "str" = false := rfl
theorem st_dict_tuple : subTy "dict" "tuple" = false := rfl
theorem st_dict_list : subTy "dict" "list" = false := rfl
theorem st_dict_dict : subTy "dict" "dict" = true := rfl
theorem at_0 {x : MV} {xs : List MV} : atM (x :: xs) 0 = some x := by
  have := at_nat (xs := x :: xs) (i := 0) (v := x) rfl
  exact this
theorem at_1 {x y : MV} {xs : List MV} : atM (x :: y :: xs) 1 = some y := at_nat (xs := x :: y :: xs) (i := 1) rfl
theorem at_2 {x y z : MV} {xs : List MV} : atM (x :: y :: z :: xs) 2 = some z := at_nat (xs := x :: y :: z :: xs) (i := 2) rfl
theorem at_3 {x y z u : MV} {xs : List MV} : atM (x :: y :: z :: u :: xs) 3 = some u := at_nat (xs := x :: y :: z :: u :: xs) (i := 3) rfl
theorem abs_mul {x y : Int} {X Y : Nat} (hx : x.natAbs < X) (hy : y.natAbs < Y) : (x * y).natAbs < X * Y := by
  rw [Int.natAbs_mul]
  exact Nat.mul_lt_mul'' hx hy
theorem eq_ii (h : MH) (i j : Int) : opEq h (.int i) (.int j) = some (.bl (i == j)) := rfl
theorem ne_ii (h : MH) (i j : Int) : opNe h (.int i) (.int j) = some (.bl (!(i == j))) := rfl
theorem eq_bb (h : MH) (i j : Bool) : opEq h (.bl i) (.bl j) = some (.bl (i == j)) := rfl
theorem beq_t {i j : Int} (h : i = j) : (i == j) = true := by rw [h]; exact beq_self_eq_true j
theorem beq_f {i j : Int} (h : i ≠ j) : (i == j) = false := by simpa using h
/-- a comprehension over what some things stand for, with a test -/
theorem lcGo_gen {α : Type} {g : XG} {c : XT} {e : XE} {s : SM} {h : MH} (t : α → MV) (P : α → Bool) (f : α → MV) : ∀ (xs : List α) (acc : List MV), acc.length + xs.length ≤ szLine →
    (∀ x ∈ xs, ∃ s1, g (t x) s h = some (s1, h) ∧ c s1 h = some (P x, h) ∧ (P x = true → e s1 h = some (f x, h))) → lcGo g c e acc (xs.map t) s h = some (acc ++ (xs.filter P).map f, h)
  | [], acc, _, _ => by simp [lcGo]
  | x :: xs, acc, hz, step => by
    obtain ⟨s1, e1, e2, e3⟩ := step x List.mem_cons_self
    simp only [List.length_cons] at hz
    rw [List.map_cons, lcGo]
    simp only [e1, e2]
    cases q : P x with
    | false =>
      simp only [q]
      rw [lcGo_gen t P f xs acc (by omega) (fun y hy => step y (List.mem_cons_of_mem _ hy)), List.filter_cons_of_neg (by rw [q]; decide)]
    | true =>
      have hl : acc.length < szLine := by omega
      simp only [q, e3 q, hl, if_true]
      rw [lcGo_gen t P f xs (acc ++ [f x]) (by simp only [List.length_append, List.length_cons, List.length_nil]; omega) (fun y hy => step y (List.mem_cons_of_mem _ hy)), List.filter_cons_of_pos q]
      simp
theorem lcGo_all {α : Type} {g : XG} {c : XT} {e : XE} {s : SM} {h : MH} (t f : α → MV) (xs : List α) (acc : List MV) (hz : acc.length + xs.length ≤ szLine)
    (step : ∀ x ∈ xs, ∃ s1, g (t x) s h = some (s1, h) ∧ c s1 h = some (true, h) ∧ e s1 h = some (f x, h)) : lcGo g c e acc (xs.map t) s h = some (acc ++ xs.map f, h) := by
  rw [lcGo_gen t (fun _ => true) f xs acc hz (fun x hx => by obtain ⟨s1, a, b, c⟩ := step x hx; exact ⟨s1, a, b, fun _ => c⟩)]
  rw [List.filter_eq_self.mpr (fun _ _ => rfl)]
theorem cut_to {xs : List MV} {i : Int} (h : 0 ≤ i) : cutM xs none (some i) = xs.take i.toNat := by
  have q : ¬ i < 0 := by omega
  simp only [cutM, sIxM, if_neg q, List.drop_zero, Nat.sub_zero]
  rw [← List.take_eq_take_min]
theorem cut_from {xs : List MV} {i : Int} (h : 0 ≤ i) : cutM xs (some i) none = xs.drop i.toNat := by
  have q : ¬ i < 0 := by omega
  simp only [cutM, sIxM, if_neg q]
  by_cases c : i.toNat ≤ xs.length
  · rw [Nat.min_eq_left c, List.take_of_length_le (by rw [List.length_drop]; omega)]
  · rw [Nat.min_eq_right (by omega), List.drop_eq_nil_of_le (Nat.le_refl _), List.drop_eq_nil_of_le (by omega)]; simp
theorem flat_ints : ∀ r : List Int, (r.map MV.int).all flatM = true
  | [] => rfl
  | _ :: r => by rw [List.map_cons, List.all_cons, flat_ints r]; rfl
theorem find_ints : ∀ {r : List Int} {a : Int}, a ∈ r → (r.map MV.int).findIdx? (fun z => feqM z (.int a)) = some (r.idxOf a)
  | x :: r, a, h => by
    rw [List.map_cons, List.findIdx?_cons, List.idxOf_cons]
    by_cases q : x = a
    · have e : feqM (.int x) (.int a) = true := by simp [feqM, q]
      have e2 : (x == a) = true := by simpa using q
      rw [e, e2]; rfl
    · have e : feqM (.int x) (.int a) = false := by simp [feqM, q]
      have e2 : (x == a) = false := by simpa using q
      rw [e, e2, find_ints ((List.mem_cons.mp h).resolve_left fun z => q z.symm)]; rfl
theorem index_at {h : MH} {r : List Int} {a : Int} (ha : a ∈ r) : opIndexL h (.lst (r.map .int)) (.int a) = some (.int (r.idxOf a : Nat)) := by
  simp only [opIndexL, opIndexL0, lstV]
  rw [flat_ints, find_ints ha]
  rfl
theorem in_ints (r : List Int) (a : Int) : inSeq (.int a) (r.map .int) = some (decide (a ∈ r)) := by
  unfold inSeq
  rw [flat_ints]
  simp only [flatM, Bool.and_self, if_true]
  congr 1
  induction r with
  | nil => simp
  | cons x r ih =>
    rw [List.map_cons, List.any_cons, ih]
    simp only [feqM, List.mem_cons]
    by_cases q : x = a
    · simp [q]
    · have : ¬ a = x := fun z => q z.symm
      simp [q, this]
theorem in_lst (h : MH) (r : List Int) (a : Int) : opIn h (.int a) (.lst (r.map .int)) = some (.bl (decide (a ∈ r))) := by
  simp only [opIn, seqOf, listOf, in_ints]; rfl
theorem in_tup (h : MH) (r : List Int) (a : Int) : opIn h (.int a) (.tup (r.map .int)) = some (.bl (decide (a ∈ r))) := by
  simp only [opIn, seqOf, in_ints]; rfl
theorem notin_lst (h : MH) (r : List Int) (a : Int) : opNotIn h (.int a) (.lst (r.map .int)) = some (.bl (!decide (a ∈ r))) := by
  simp only [opNotIn, seqOf, listOf, in_ints]; rfl
theorem notin_tup (h : MH) (r : List Int) (a : Int) : opNotIn h (.int a) (.tup (r.map .int)) = some (.bl (!decide (a ∈ r))) := by
  simp only [opNotIn, seqOf, in_ints]; rfl
theorem ix_l (h : MH) (xs : List MV) (i : Int) : opIx h (.lst xs) (.int i) = atM xs i := by simp only [opIx, seqOf, listOf]
theorem ix_t (h : MH) (xs : List MV) (i : Int) : opIx h (.tup xs) (.int i) = atM xs i := by simp only [opIx, seqOf]
theorem seq_rt' {a b : XS} {s s1 : SM} {h h1 : MH} {f : Fl} (e : a s h = some (f, s1, h1)) (hf : f = .nx) : sSeq a b s h = b s1 h1 := by subst hf; exact seq_nx e
theorem pick {α : Type} {f : α → MV} {xs : List α} {n : Int} (hn : 0 ≤ n) (hx : xs ≠ []) : ∃ x ∈ xs, atM (xs.map f) (n % ((xs.length : Nat) : Int)) = some (f x) := by
  have hl : 0 < xs.length := List.length_pos_iff.mpr hx
  have h0 := Int.emod_nonneg n (show ((xs.length : Nat) : Int) ≠ 0 by omega)
  have h1 := Int.emod_lt_of_pos n (show (0 : Int) < ((xs.length : Nat) : Int) by omega)
  obtain ⟨k, hk⟩ := Int.eq_ofNat_of_zero_le h0
  rw [hk] at h1 ⊢
  have hk2 : k < xs.length := by omega
  exact ⟨xs[k], List.getElem_mem hk2, at_nat (by rw [List.getElem?_map, List.getElem?_eq_getElem hk2]; rfl)⟩
theorem get_app {h t : MH} {d : Nat} {c : MC} (e : h[d]? = some c) : (h ++ t)[d]? = some c := by
  rw [List.getElem?_append_left (List.getElem?_eq_some_iff.mp e).1]; exact e
theorem set_app {h t : MH} {d : Nat} {c c' : MC} (hd : d < h.length) : ((h.set d c) ++ t).set d c' = (h.set d c') ++ t := by
  rw [List.set_append_left _ _ (by simpa using hd), List.set_set]
theorem get_set {h : MH} {d : Nat} {c : MC} (hd : d < h.length) : (h.set d c)[d]? = some c := List.getElem?_set_self hd
theorem get_end {h : MH} {n : Nat} {c : MC} (hn : h.length = n) : (h ++ [c])[n]? = some c := by subst hn; exact get_last
theorem set_end {h : MH} {n : Nat} {c c' : MC} (hn : h.length = n) : (h ++ [c]).set n c' = h ++ [c'] := by subst hn; exact set_last
theorem popAt_at {o i : XE} {s : SM} {h h1 h2 : MH} {n j : Nat} {xs ys : List MV} {k : Int} {y : MV} (e1 : o s h = some (.ref n, h1)) (e2 : h1[n]? = some (.lst ys)) (e3 : i s h1 = some (.int k, h2)) (e4 : h2[n]? = some (.lst xs)) (hk : 0 ≤ k ∧ k < 4611686018427387904) (e5 : ixM xs.length k = some j) (e6 : xs[j]? = some y) :
    xPopAt o i s h = some (y, h2.set n (.lst (xs.eraseIdx j))) := by
  have q : (-(2 ^ 62) ≤ k ∧ k < 2 ^ 62) := by omega
  simp only [xPopAt, e1, isLstC, e2, if_true, e3, e4]
  rw [if_pos q]
  simp only [e5, e6]
theorem append_at {o e : XE} {s : SM} {h h1 h2 : MH} {n : Nat} {xs ys : List MV} {v : MV} (e1 : o s h = some (.ref n, h1)) (e2 : h1[n]? = some (.lst ys)) (e3 : e s h1 = some (v, h2)) (e4 : h2[n]? = some (.lst xs)) (hz : xs.length < szLine) :
    xAppend o e s h = some (.non, h2.set n (.lst (xs ++ [v]))) := by
  simp only [xAppend, e1, isLstC, e2, if_true, e3, e4, hz]
theorem get_e0 {A t : MH} {n : Nat} {c : MC} (hn : A.length = n) : (A ++ (c :: t))[n]? = some c := by subst hn; simp
theorem get_e1 {A t : MH} {n : Nat} {c c1 : MC} (hn : A.length = n) : (A ++ (c :: c1 :: t))[n + 1]? = some c1 := by subst hn; simp
theorem set_e0 {A t : MH} {n : Nat} {c c' : MC} (hn : A.length = n) : (A ++ (c :: t)).set n c' = A ++ (c' :: t) := by subst hn; simp
theorem set_e1 {A t : MH} {n : Nat} {c c1 c' : MC} (hn : A.length = n) : (A ++ (c :: c1 :: t)).set (n + 1) c' = A ++ (c :: c' :: t) := by
  subst hn
  rw [List.set_append_right _ _ (by omega)]
  simp
theorem cut_last {xs : List MV} : cutM xs (some (-1)) none = xs.drop (xs.length - 1) := by
  have e : sIxM xs.length 0 (some (-1)) = xs.length - 1 := by
    have q : (-1 : Int) < 0 := by decide
    simp only [sIxM, if_pos q]
    omega
  have e2 : sIxM xs.length xs.length none = xs.length := rfl
  simp only [cutM, e, e2]
  rw [List.take_of_length_le (by rw [List.length_drop]; omega)]
theorem expr_at {e : XE} {s : SM} {h h1 : MH} {v : MV} (e1 : e s h = some (v, h1)) : sExpr e s h = some (.nx, s, h1) := by simp only [sExpr, e1]
theorem erase_map {α β : Type} (f : α → β) : ∀ (xs : List α) (j : Nat), (xs.map f).eraseIdx j = (xs.eraseIdx j).map f
  | [], j => by simp
  | x :: xs, 0 => by simp
  | x :: xs, j + 1 => by simp only [List.map_cons, List.eraseIdx_cons_succ, erase_map f xs j]
theorem erase_perm {α : Type} : ∀ (xs : List α) (j : Nat) (h : j < xs.length), (xs[j] :: xs.eraseIdx j).Perm xs
  | x :: xs, 0, _ => by simp
  | x :: xs, j + 1, h => by
    simp only [List.getElem_cons_succ, List.eraseIdx_cons_succ]
    exact (List.Perm.swap _ _ _).trans ((erase_perm xs j (by simpa using h)).cons x)
/-! ### what is told to callers -/
theorem frzs_ints {h : MH} {n x : Nat} : ∀ xs : List Int, Frzs h n x (xs.map .int) (xs.map .int)
  | [] => by simp [Frzs]
  | y :: ys => by simp only [List.map_cons, Frzs, Frz]; exact ⟨_, _, rfl, rfl, frzs_ints ys⟩
theorem cel_app {h t : MH} {x : Nat} : CelOK h (h ++ t) h x := ⟨rfl, by simp, fun i c e => .inl ⟨by rw [List.getElem?_append_left (List.getElem?_eq_some_iff.mp e).1]; exact e, e⟩⟩
theorem FrzOK.same {g : Fn} {args : List MV} {h : MH} {v : MV} (e : ∃ v2 t, g args h = some (v2, h ++ t) ∧ Frz (h ++ t) h.length (h ++ t).length v2 v) : FrzOK g args h v h := by
  obtain ⟨v2, t, e, f⟩ := e
  exact ⟨v2, _, e, cel_app, f⟩
mutual
theorem frz_plain {h : MH} {n x : Nat} : ∀ v : MV, plainV v = true → Frz h n x v v
  | .non, _ => by simp [Frz]
  | .bl _, _ => by simp [Frz]
  | .int _, _ => by simp [Frz]
  | .str _, _ => by simp [Frz]
  | .scr _, _ => by simp [Frz]
  | .ref _, e => by simp [plainV] at e
  | .tup xs, e => by simp only [plainV] at e; simp only [Frz]; exact ⟨xs, rfl, frz_plainL xs e⟩
  | .row xs, e => by simp only [plainV] at e; simp only [Frz]; exact ⟨xs, rfl, frz_plainL xs e⟩
  | .lst xs, e => by simp only [plainV] at e; simp only [Frz]; exact .inl ⟨xs, rfl, frz_plainL xs e⟩
  | .dK xs, e => by simp only [plainV] at e; simp only [Frz]; exact .inl ⟨xs, rfl, frz_plainK xs e⟩
  | .dT xs, e => by simp only [plainV] at e; simp only [Frz]; exact .inl ⟨xs, rfl, frz_plainT xs e⟩
theorem frz_plainL {h : MH} {n x : Nat} : ∀ v : List MV, plainL v = true → Frzs h n x v v
  | [], _ => by simp [Frzs]
  | v :: vs, e => by simp only [plainL, Bool.and_eq_true] at e; simp only [Frzs]; exact ⟨v, vs, rfl, frz_plain v e.1, frz_plainL vs e.2⟩
theorem frz_plainK {h : MH} {n x : Nat} : ∀ v : List (MK × MV), plainK v = true → Frzk h n x v v
  | [], _ => by simp [Frzk]
  | (k, v) :: vs, e => by simp only [plainK, Bool.and_eq_true] at e; simp only [Frzk]; exact ⟨v, vs, rfl, frz_plain v e.1, frz_plainK vs e.2⟩
theorem frz_plainT {h : MH} {n x : Nat} : ∀ v : List (List MK × MV), plainT v = true → Frzt h n x v v
  | [], _ => by simp [Frzt]
  | (k, v) :: vs, e => by simp only [plainT, Bool.and_eq_true] at e; simp only [Frzt]; exact ⟨v, vs, rfl, frz_plain v e.1, frz_plainT vs e.2⟩
end
theorem cfrz_plain {h : MH} {n x : Nat} {c : MC} (e : plainC c = true) : CFrz h n x c c := by
  cases c <;> first | (cases e; done) | skip
  all_goals simp only [plainC] at e
  all_goals simp only [CFrz]
  · exact frz_plainL _ e
  · exact frz_plainK _ e
  · exact frz_plainT _ e
  · exact frz_plainK _ e
  · exact frz_plainT _ e
theorem Keeps.cel {h h2 : MH} {x : Nat} (k : Keeps h h2) : CelOK h h2 (h2.take h.length) x := by
  refine ⟨by rw [List.length_take]; have := k.1; omega, k.1, fun i c e => ?_⟩
  have hi : i < h.length := by
    have := (List.getElem?_eq_some_iff.mp e).1
    rw [List.length_take] at this; omega
  rw [List.getElem?_take_of_lt hi] at e
  rcases k.2 i c hi e with q | q
  · exact .inl ⟨e, q⟩
  · exact .inr ⟨c, e, cfrz_plain q⟩
theorem toldV_ok (g : Fn) : ∀ args h v h', toldV g args h = some (v, h') → FrzOK g args h v h' := by
  intro args h v h' e
  unfold toldV at e
  split at e
  · rename_i v2 h2 e2
    split at e
    · rename_i q
      simp only [Option.some.injEq, Prod.mk.injEq] at e
      obtain ⟨rfl, rfl⟩ := e
      exact ⟨v2, h2, e2, q.2.cel, frz_plain _ q.1⟩
    · cases e
  · cases e
theorem toldF_ok (g : Fn) : ∀ args h v h', toldF g args h = some (v, h') → FrzF g args h v h' := by
  intro args h v h' e
  unfold toldF at e
  split at e
  · rename_i m h2 e2
    split at e
    · rename_i q
      split at e
      · rename_i xs e3
        split at e
        · rename_i p
          simp only [Option.some.injEq, Prod.mk.injEq] at e
          obtain ⟨rfl, rfl⟩ := e
          exact ⟨m, _, h2, e2, q.1, e3, q.2.cel, frz_plainL _ p⟩
        · cases e
      · rename_i xs e3
        split at e
        · rename_i p
          simp only [Option.some.injEq, Prod.mk.injEq] at e
          obtain ⟨rfl, rfl⟩ := e
          exact ⟨m, _, h2, e2, q.1, e3, q.2.cel, frz_plainK _ p⟩
        · cases e
      · cases e
    · cases e
  · cases e
theorem keeps_of {h h' t : MH} (hl : h'.length = h.length) (hc : ∀ (i : Nat) (c : MC), h'[i]? = some c → h[i]? = some c ∨ plainC c = true) : Keeps h (h' ++ t) := ⟨by rw [List.length_append, hl]; omega, fun i c hi e => by
  rw [List.getElem?_append_left (by omega)] at e
  exact hc i c e⟩
theorem take_of {h h' t : MH} (hl : h'.length = h.length) : (h' ++ t).take h.length = h' := by rw [← hl]; simp
/-- what a def's function does, told -/
theorem toldV_at {g : Fn} {args : List MV} {h h' t : MH} {v : MV} (e : g args h = some (v, h' ++ t)) (hp : plainV v = true) (hl : h'.length = h.length) (hc : ∀ (i : Nat) (c : MC), h'[i]? = some c → h[i]? = some c ∨ plainC c = true) : toldV g args h = some (v, h') := by
  unfold toldV
  simp only [e]
  rw [if_pos ⟨hp, keeps_of hl hc⟩, take_of hl]
theorem toldF_dK {g : Fn} {args : List MV} {h h' t : MH} {m : Nat} {kvs : List (MK × MV)} (e : g args h = some (.ref m, h' ++ t)) (hm : (h' ++ t)[m]? = some (.dK kvs)) (hn : h.length ≤ m) (hp : plainK kvs = true) (hl : h'.length = h.length) (hc : ∀ (i : Nat) (c : MC), h'[i]? = some c → h[i]? = some c ∨ plainC c = true) : toldF g args h = some (.dK kvs, h') := by
  unfold toldF
  simp only [e]
  rw [if_pos ⟨hn, keeps_of hl hc⟩]
  simp only [hm]
  rw [if_pos hp, take_of hl]
theorem toldF_lst {g : Fn} {args : List MV} {h h' t : MH} {m : Nat} {kvs : List MV} (e : g args h = some (.ref m, h' ++ t)) (hm : (h' ++ t)[m]? = some (.lst kvs)) (hn : h.length ≤ m) (hp : plainL kvs = true) (hl : h'.length = h.length) (hc : ∀ (i : Nat) (c : MC), h'[i]? = some c → h[i]? = some c ∨ plainC c = true) : toldF g args h = some (.lst kvs, h') := by
  unfold toldF
  simp only [e]
  rw [if_pos ⟨hn, keeps_of hl hc⟩]
  simp only [hm]
  rw [if_pos hp, take_of hl]
theorem plain_ints : ∀ xs : List Int, plainL (xs.map .int) = true
  | [] => rfl
  | _ :: xs => by simp only [List.map_cons, plainL, plainV, Bool.true_and]; exact plain_ints xs
/-- a cell of plain things is written -/
theorem set_plain {h : MH} {d : Nat} {c : MC} (hp : plainC c = true) : ∀ (i : Nat) (c' : MC), (h.set d c)[i]? = some c' → h[i]? = some c' ∨ plainC c' = true := by
  intro i c' e
  rw [List.getElem?_set] at e
  split at e
  · split at e
    · cases e; exact .inr hp
    · cases e
  · exact .inl e
theorem same_plain {h : MH} : ∀ (i : Nat) (c' : MC), h[i]? = some c' → h[i]? = some c' ∨ plainC c' = true := fun _ _ e => .inl e
theorem in_row (h : MH) (r : List Int) (a : Int) : opIn h (.int a) (.row (r.map .int)) = some (.bl (decide (a ∈ r))) := by
  simp only [opIn, seqOf, in_ints, Option.map_some]
theorem notin_row (h : MH) (r : List Int) (a : Int) : opNotIn h (.int a) (.row (r.map .int)) = some (.bl (!decide (a ∈ r))) := by
  simp only [opNotIn, seqOf, in_ints, Option.map_some]
theorem ix_r (h : MH) (xs : List MV) (i : Int) : opIx h (.row xs) (.int i) = atM xs i := by simp only [opIx, seqOf]
theorem len_row {h : MH} {xs : List MV} : fLen h [.row xs] = some (.int xs.length) := by simp only [fLen, seqOf]
theorem seq_row {e : XE} {s : SM} {h h1 : MH} {xs : List MV} (e1 : e s h = some (.row xs, h1)) : iSeq e s h = some (.vals xs, h1) := by simp only [iSeq, e1, seqOf]
theorem row_row {h : MH} {xs : List MV} : fTuple h [.row xs] = some (.row xs) := by simp only [fTuple, seqOf, Option.map_some]
theorem ix_ref {h : MH} {n : Nat} {xs : List MV} {i : Int} (e : h[n]? = some (.lst xs)) : opIx h (.ref n) (.int i) = atM xs i := by simp only [opIx, seqOf, listOf, e]
theorem len_ref {h : MH} {n : Nat} {xs : List MV} (e : h[n]? = some (.lst xs)) : fLen h [.ref n] = some (.int xs.length) := by simp only [fLen, seqOf, listOf, e]
theorem len_dK {h : MH} {kvs : List (MK × MV)} : fLen h [.dK kvs] = some (.int kvs.length) := by simp only [fLen, seqOf, listOf, dictK]
theorem len_tup {h : MH} {xs : List MV} : fLen h [.tup xs] = some (.int xs.length) := by simp only [fLen, seqOf]
theorem len_lst {h : MH} {xs : List MV} : fLen h [.lst xs] = some (.int xs.length) := by simp only [fLen, seqOf, listOf]
theorem tup_lst {h : MH} {xs : List MV} : fTuple h [.lst xs] = some (.row xs) := by simp only [fTuple, seqOf, listOf, Option.map_some]
theorem tup_ref {h : MH} {n : Nat} {xs : List MV} (e : h[n]? = some (.lst xs)) : fTuple h [.ref n] = some (.row xs) := by simp only [fTuple, seqOf, listOf, e, Option.map_some]
theorem extendT_at {o e : XE} {s : SM} {h h1 h2 : MH} {n : Nat} {xs ys zs : List MV} (e1 : o s h = some (.ref n, h1)) (e2 : h1[n]? = some (.lst ys)) (e3 : e s h1 = some (.tup zs, h2)) (e4 : h2[n]? = some (.lst xs)) (hz : xs.length + zs.length ≤ szLine) :
    xExtendT o e s h = some (.non, h2.set n (.lst (xs ++ zs))) := by
  have : isLstC h1 n = true := by simp only [isLstC, e2]
  simp only [xExtendT, e1, this, if_true, e3, e4, hz]
theorem seq_tup {e : XE} {s : SM} {h h1 : MH} {xs : List MV} (e1 : e s h = some (.tup xs, h1)) : iSeq e s h = some (.vals xs, h1) := by simp only [iSeq, e1, seqOf]
theorem seq_lst {e : XE} {s : SM} {h h1 : MH} {xs : List MV} (e1 : e s h = some (.lst xs, h1)) : iSeq e s h = some (.vals xs, h1) := by simp only [iSeq, e1, seqOf, listOf]
theorem var_at {i : Nat} {s : SM} {h : MH} {v : MV} (e : s[i]? = some (some v)) : xVar i s h = some (v, h) := by simp only [xVar, e]
theorem call_ab {g : Fn} {a b : XE} {x y : MV} {s : SM} {h h1 h2 : MH} (e1 : a s h = some (x, h1)) (e2 : b s h1 = some (y, h2)) : xCall g (xCons a (xCons b xNil)) s h = g [x, y] h2 := by simp only [xCall, xCons, xNil, e1, e2]
theorem call_a {g : Fn} {a : XE} {x : MV} {s : SM} {h h1 : MH} (e1 : a s h = some (x, h1)) : xCall g (xCons a xNil) s h = g [x] h1 := by simp only [xCall, xCons, xNil, e1]
theorem call_abc {g : Fn} {a b c : XE} {x y z : MV} {s : SM} {h h1 h2 h3 : MH} (e1 : a s h = some (x, h1)) (e2 : b s h1 = some (y, h2)) (e3 : c s h2 = some (z, h3)) : xCall g (xCons a (xCons b (xCons c xNil))) s h = g [x, y, z] h3 := by simp only [xCall, xCons, xNil, e1, e2, e3]
theorem tup_3 {a b c : XE} {x y z : MV} {s : SM} {h h1 h2 h3 : MH} (e1 : a s h = some (x, h1)) (e2 : b s h1 = some (y, h2)) (e3 : c s h2 = some (z, h3)) : xTup (xCons a (xCons b (xCons c xNil))) s h = some (.tup [x, y, z], h3) := by simp only [xTup, xCons, xNil, e1, e2, e3]
theorem put_at {o k e : XE} {s : SM} {h h1 h2 h3 h4 : MH} {ov kv v : MV} (e1 : e s h = some (v, h1)) (e2 : o s h1 = some (ov, h2)) (e3 : k s h2 = some (kv, h3)) (e4 : stM h3 ov kv v = some h4) : sPut o k e s h = some (.nx, s, h4) := by simp only [sPut, e1, e2, e3, e4]
/-! ### told: a plain value, or a fresh list or dict as what it holds -/
noncomputable def toldA (g : Fn) : Fn := fun args h => match toldV g args h with
  | some r => some r
  | none => toldF g args h
theorem lt_of_get {h : MH} {m : Nat} {c : MC} (e : h[m]? = some c) : m < h.length := (List.getElem?_eq_some_iff.mp e).1
theorem toldA_ok (g : Fn) : ∀ args h v h', toldA g args h = some (v, h') → FrzOK g args h v h' := by
  intro args h v h' e
  unfold toldA at e
  cases e0 : toldV g args h with
  | some r =>
    rw [e0] at e
    simp only [Option.some.injEq] at e
    subst e
    exact toldV_ok g args h v h' e0
  | none =>
    rw [e0] at e
    simp only at e
    unfold toldF at e
    split at e
    · rename_i m h2 e2
      split at e
      · rename_i q
        split at e
        · rename_i xs e3
          split at e
          · rename_i p
            simp only [Option.some.injEq, Prod.mk.injEq] at e
            obtain ⟨rfl, rfl⟩ := e
            refine ⟨.ref m, h2, e2, q.2.cel, ?_⟩
            simp only [Frz]
            exact .inr ⟨m, xs, rfl, q.1, Nat.ne_of_lt (lt_of_get e3), e3, frz_plainL _ p⟩
          · cases e
        · rename_i xs e3
          split at e
          · rename_i p
            simp only [Option.some.injEq, Prod.mk.injEq] at e
            obtain ⟨rfl, rfl⟩ := e
            refine ⟨.ref m, h2, e2, q.2.cel, ?_⟩
            simp only [Frz]
            exact .inr ⟨m, xs, rfl, q.1, Nat.ne_of_lt (lt_of_get e3), e3, frz_plainK _ p⟩
          · cases e
        · cases e
      · cases e
    · cases e
theorem toldV_ref {g : Fn} {args : List MV} {h h2 : MH} {m : Nat} (e : g args h = some (.ref m, h2)) : toldV g args h = none := by
  unfold toldV
  simp only [e]
  exact if_neg (fun z => by simp [plainV] at z)
theorem toldA_v {g : Fn} {args : List MV} {h h' t : MH} {v : MV} (e : g args h = some (v, h' ++ t)) (hp : plainV v = true) (hl : h'.length = h.length) (hc : ∀ (i : Nat) (c : MC), h'[i]? = some c → h[i]? = some c ∨ plainC c = true) : toldA g args h = some (v, h') := by
  unfold toldA; rw [toldV_at e hp hl hc]
theorem toldA_lst {g : Fn} {args : List MV} {h h' t : MH} {m : Nat} {kvs : List MV} (e : g args h = some (.ref m, h' ++ t)) (hm : (h' ++ t)[m]? = some (.lst kvs)) (hn : h.length ≤ m) (hp : plainL kvs = true) (hl : h'.length = h.length) (hc : ∀ (i : Nat) (c : MC), h'[i]? = some c → h[i]? = some c ∨ plainC c = true) : toldA g args h = some (.lst kvs, h') := by
  unfold toldA; rw [toldV_ref e]; exact toldF_lst e hm hn hp hl hc
/-! ### comprehensions over a cell -/
theorem lcCell_mono {g : XG} {c : XT} {e : XE} {n : Nat} : ∀ (m i : Nat) (acc : List MV) (s : SM) (h : MH) (r : List MV × MH), lcCell g c e n m i acc s h = some r → lcCell g c e n (m + 1) i acc s h = some r := by
  intro m
  induction m with
  | zero => intro i acc s h r q; cases q
  | succ m ih =>
    intro i acc s h r q
    unfold lcCell at q ⊢
    cases e1 : h[n]? with
    | none => rw [e1] at q; cases q
    | some cl =>
      rw [e1] at q
      cases cl with
      | lst xs =>
        simp only at q ⊢
        cases e2 : xs[i]? with
        | none => rw [e2] at q; exact q
        | some x =>
          rw [e2] at q
          simp only at q ⊢
          cases e3 : g x s h with
          | none => rw [e3] at q; cases q
          | some p =>
            obtain ⟨s1, h1⟩ := p
            rw [e3] at q
            simp only at q ⊢
            cases e4 : c s1 h1 with
            | none => rw [e4] at q; cases q
            | some p2 =>
              obtain ⟨k, h2⟩ := p2
              rw [e4] at q
              cases k with
              | false => exact ih _ _ _ _ _ q
              | true =>
                simp only at q ⊢
                cases e5 : e s1 h2 with
                | none => rw [e5] at q; cases q
                | some p3 =>
                  obtain ⟨v, h3⟩ := p3
                  rw [e5] at q
                  simp only at q ⊢
                  split at q
                  · rename_i z; rw [if_pos z]; exact ih _ _ _ _ _ q
                  · cases q
      | dK _ => cases q
      | dT _ => cases q
      | lkK _ => cases q
      | lkT _ => cases q
      | tab _ => cases q
theorem lcCell_all {α : Type} {g : XG} {e : XE} {s : SM} {h : MH} {n : Nat} (t f : α → MV) (xs : List α) (hc : h[n]? = some (.lst (xs.map t))) (hz : xs.length ≤ szLine)
    (step : ∀ x ∈ xs, ∃ s1, g (t x) s h = some (s1, h) ∧ e s1 h = some (f x, h)) : ∀ (k i : Nat) (acc : List MV), xs.length - i = k → i ≤ xs.length → acc.length = i → lcCell g cYes e n (k + 1) i acc s h = some (acc ++ (xs.drop i).map f, h) := by
  intro k
  induction k with
  | zero =>
    intro i acc hk hi ha
    unfold lcCell
    have : i = xs.length := by omega
    subst this
    have e2 : (xs.map t)[xs.length]? = none := List.getElem?_eq_none (by rw [List.length_map]; omega)
    simp only [hc, e2, List.drop_length, List.map_nil, List.append_nil]
  | succ k ih =>
    intro i acc hk hi ha
    have hlt : i < xs.length := by omega
    obtain ⟨s1, g1, e1⟩ := step xs[i] (List.getElem_mem hlt)
    have e2 : (xs.map t)[i]? = some (t xs[i]) := by rw [List.getElem?_map, List.getElem?_eq_getElem hlt]; rfl
    have hz2 : acc.length < szLine := by omega
    unfold lcCell
    simp only [hc, e2, g1, cYes, e1, hz2, if_true]
    rw [ih (i + 1) (acc ++ [f xs[i]]) (by omega) (by omega) (by simp [ha]), List.drop_eq_getElem_cons hlt, List.map_cons, List.append_assoc, List.singleton_append]
theorem lcC_at {α : Type} {it : XI} {g : XG} {e : XE} {own : List Nat} {s : SM} {h h1 : MH} {n : Nat} (t f : α → MV) (xs : List α) (e1 : it s h = some (.cell n, h1)) (hc : h1[n]? = some (.lst (xs.map t))) (hz : xs.length ≤ szLine)
    (step : ∀ x ∈ xs, ∃ s1, g (t x) (wipeM s own) h1 = some (s1, h1) ∧ e s1 h1 = some (f x, h1)) : xLc it g cYes e own s h = some (.lst (xs.map f), h1) := by
  have q := lcCell_all t f xs hc hz step xs.length 0 [] (by omega) (by omega) rfl
  have q2 : fuel (fun t => lcCell g cYes e n t 0 [] (wipeM s own) h1) = some (xs.map f, h1) := fuel_of (n := xs.length + 1) (fun m r z => lcCell_mono m 0 [] _ _ r z) (by rw [q]; simp)
  simp only [xLc, e1, q2]
end Ew
end

section
set_option linter.all false
set_option maxRecDepth 100000
/-! EwW: plain webs: rows of neighbours, three-cornered webs built point by point. -/
namespace Ew
open PySem (Str)
abbrev WL := List (Int × List Int)
def rowsV (W : WL) : List (MK × MV) := W.map fun p => (.inl p.1, .lst (p.2.map .int))
def websV (W : WL) : List (MK × MV) := W.map fun p => (.inl p.1, .row (p.2.map .int))
def rowOf : WL → Int → Option (List Int)
  | [], _ => none
  | p :: W, u => if p.1 = u then some p.2 else rowOf W u
def keysOf' (W : WL) : List Int := W.map (·.1)
def repRow : WL → Int → List Int → WL
  | [], _, _ => []
  | p :: W, u, r => (if p.1 = u then (p.1, r) else p) :: repRow W u r
def putRow (W : WL) (u : Int) (r : List Int) : WL := if (rowOf W u).isSome then repRow W u r else W ++ [(u, r)]
theorem getK_nil {κ : Type} [DecidableEq κ] (k : κ) : getK ([] : List (κ × MV)) k = none := rfl
theorem getK_cons {κ : Type} [DecidableEq κ] (a : κ) (v : MV) (r : List (κ × MV)) (k : κ) : getK ((a, v) :: r) k = if a = k then some v else getK r k := by
  unfold getK
  rw [List.find?_cons]
  split
  · rename_i h; rw [if_pos (by simpa using h)]; rfl
  · rename_i h; rw [if_neg (by simpa using h)]
theorem getK_gen (f : List Int → MV) : ∀ (W : WL) (u : Int), getK (W.map fun p => ((.inl p.1 : MK), f p.2)) (.inl u) = (rowOf W u).map f
  | [], u => rfl
  | p :: W, u => by
    rw [List.map_cons, getK_cons, rowOf, getK_gen f W u]
    by_cases h : p.1 = u
    · rw [if_pos h, if_pos (by rw [h])]; rfl
    · rw [if_neg h, if_neg (fun z => h (Sum.inl.inj z))]
theorem any_gen (f : List Int → MV) : ∀ (W : WL) (u : Int), ((W.map fun p => ((.inl p.1 : MK), f p.2)).any fun kv => decide (kv.1 = .inl u)) = (rowOf W u).isSome
  | [], u => rfl
  | p :: W, u => by
    rw [List.map_cons, List.any_cons, rowOf, any_gen f W u]
    by_cases h : p.1 = u
    · rw [if_pos h, decide_eq_true (by rw [h])]; rfl
    · rw [if_neg h, decide_eq_false (fun z => h (Sum.inl.inj z))]; rfl
theorem rep_gen (f : List Int → MV) : ∀ (W : WL) (u : Int) (r : List Int), ((W.map fun p => ((.inl p.1 : MK), f p.2)).map fun kv => if kv.1 = .inl u then (kv.1, f r) else kv) = (repRow W u r).map fun p => ((.inl p.1 : MK), f p.2)
  | [], u, r => rfl
  | p :: W, u, r => by
    simp only [List.map_cons, repRow]
    rw [rep_gen f W u r]
    by_cases h : p.1 = u
    · simp [h]
    · simp [h]
theorem putM_gen (f : List Int → MV) (W : WL) (u : Int) (r : List Int) : putM (W.map fun p => ((.inl p.1 : MK), f p.2)) (.inl u) (f r) = (putRow W u r).map fun p => ((.inl p.1 : MK), f p.2) := by
  unfold putM putRow
  rw [any_gen, rep_gen]
  split
  · rfl
  · rw [List.map_append]; rfl
theorem getK_rows (W : WL) (u : Int) : getK (rowsV W) (.inl u) = (rowOf W u).map fun r => .lst (r.map .int) := getK_gen (fun r => .lst (r.map .int)) W u
theorem getK_webs (W : WL) (u : Int) : getK (websV W) (.inl u) = (rowOf W u).map fun r => .row (r.map .int) := getK_gen (fun r => .row (r.map .int)) W u
theorem putM_rows (W : WL) (u : Int) (r : List Int) : putM (rowsV W) (.inl u) (.lst (r.map .int)) = rowsV (putRow W u r) := putM_gen (fun r => .lst (r.map .int)) W u r
theorem putM_webs (W : WL) (u : Int) (r : List Int) : putM (websV W) (.inl u) (.row (r.map .int)) = websV (putRow W u r) := putM_gen (fun r => .row (r.map .int)) W u r
theorem rowOf_rep : ∀ (W : WL) (u : Int) (r : List Int) (v : Int), rowOf (repRow W u r) v = if v = u ∧ (rowOf W u).isSome then some r else rowOf W v
  | [], u, r, v => by simp [repRow, rowOf]
  | p :: W, u, r, v => by
    simp only [repRow, rowOf]
    rw [rowOf_rep W u r v]
    by_cases h : p.1 = u
    · by_cases q : v = u
      · subst q; simp [h]
      · have : ¬ p.1 = v := fun z => q (by rw [← z, h])
        have : ¬ u = v := fun z => q z.symm
        simp [h, q, this]
    · by_cases q : v = u
      · subst q; simp [h]
      · simp [h, q]
theorem rowOf_app : ∀ (W V : WL) (v : Int), rowOf (W ++ V) v = (rowOf W v).or (rowOf V v)
  | [], V, v => by simp [rowOf]
  | p :: W, V, v => by
    rw [List.cons_append, rowOf, rowOf, rowOf_app W V v]
    split <;> simp
theorem rowOf_put (W : WL) (u : Int) (r : List Int) (v : Int) : rowOf (putRow W u r) v = if v = u then some r else rowOf W v := by
  unfold putRow
  split
  · rename_i h
    rw [rowOf_rep]
    simp [h]
  · rename_i h
    rw [rowOf_app]
    by_cases q : v = u
    · subst q
      have : rowOf W v = none := by simpa using h
      simp [this, rowOf]
    · have : ¬ u = v := fun z => q z.symm
      simp [rowOf, q, this]
theorem rowOf_some : ∀ (W : WL) (u : Int), (rowOf W u).isSome = true ↔ u ∈ keysOf' W
  | [], u => by simp [rowOf, keysOf']
  | p :: W, u => by
    have ih := rowOf_some W u
    unfold keysOf' at ih ⊢
    rw [rowOf, List.map_cons, List.mem_cons]
    split
    · rename_i h; simp [h]
    · rename_i h; rw [ih]; exact ⟨.inr, fun z => z.elim (fun q => absurd q.symm h) id⟩
theorem rowOf_mem {W : WL} {u : Int} {r : List Int} (e : rowOf W u = some r) : u ∈ keysOf' W := (rowOf_some W u).mp (by rw [e]; rfl)
theorem rowOf_none {W : WL} {u : Int} (h : u ∉ keysOf' W) : rowOf W u = none := by
  cases e : rowOf W u with
  | none => rfl
  | some r => exact absurd (rowOf_mem e) h
theorem mem_rowOf {W : WL} {u : Int} (h : u ∈ keysOf' W) : ∃ r, rowOf W u = some r := Option.isSome_iff_exists.mp ((rowOf_some W u).mpr h)
theorem keys_rep : ∀ (W : WL) (u : Int) (r : List Int), keysOf' (repRow W u r) = keysOf' W
  | [], _, _ => rfl
  | p :: W, u, r => by
    have ih := keys_rep W u r
    unfold keysOf' at ih ⊢
    simp only [repRow, List.map_cons, ih]
    split <;> rfl
theorem keys_put (W : WL) (u : Int) (r : List Int) : keysOf' (putRow W u r) = if u ∈ keysOf' W then keysOf' W else keysOf' W ++ [u] := by
  unfold putRow
  by_cases h : u ∈ keysOf' W
  · rw [if_pos ((rowOf_some W u).mpr h), if_pos h, keys_rep]
  · rw [if_neg (fun z => h ((rowOf_some W u).mp z)), if_neg h]
    simp [keysOf']
theorem rowOf_of_mem : ∀ {W : WL} {u : Int} {r : List Int}, (keysOf' W).Nodup → (u, r) ∈ W → rowOf W u = some r
  | p :: W, u, r, nd, hm => by
    unfold keysOf' at nd
    rw [List.map_cons, List.nodup_cons] at nd
    rw [rowOf]
    rcases List.mem_cons.mp hm with q | q
    · rw [← q]; simp
    · rw [if_neg (fun z => nd.1 (by rw [z]; exact List.mem_map.mpr ⟨_, q, rfl⟩))]
      exact rowOf_of_mem (by unfold keysOf'; exact nd.2) q
theorem mem_of_rowOf : ∀ {W : WL} {u : Int} {r : List Int}, rowOf W u = some r → (u, r) ∈ W
  | [], u, r, e => by simp [rowOf] at e
  | p :: W, u, r, e => by
    rw [rowOf] at e
    split at e
    · rename_i h
      cases e
      rw [← h]
      exact List.mem_cons_self
    · exact List.mem_cons_of_mem _ (mem_of_rowOf e)
/-! ### rows that go round -/
def nxt (r : List Int) (u : Int) : Int := (r[(r.idxOf u + 1) % r.length]?).getD 0
def ins (r : List Int) (a p : Int) : List Int := r.take (r.idxOf a + 1) ++ [p] ++ r.drop (r.idxOf a + 1)
theorem split_at {r : List Int} {a : Int} (h : a ∈ r) : ∃ l1 l2, r = l1 ++ a :: l2 ∧ a ∉ l1 ∧ r.idxOf a = l1.length := by
  induction r with
  | nil => cases h
  | cons x r ih =>
    by_cases q : x = a
    · subst q; exact ⟨[], r, rfl, by simp, by simp [List.idxOf_cons]⟩
    · obtain ⟨l1, l2, e, n, i⟩ := ih ((List.mem_cons.mp h).resolve_left fun z => q z.symm)
      refine ⟨x :: l1, l2, by rw [e]; rfl, fun z => (List.mem_cons.mp z).elim (fun z => q z.symm) n, ?_⟩
      have qb : (x == a) = false := by simpa using q
      rw [List.idxOf_cons, i, qb]
      rfl
theorem idx_app {l1 l2 : List Int} {a : Int} (h : a ∉ l1) : (l1 ++ a :: l2).idxOf a = l1.length := by
  induction l1 with
  | nil => simp [List.idxOf_cons]
  | cons x l1 ih =>
    have : x ≠ a := fun z => h (by rw [z]; exact List.mem_cons_self)
    have qb : (x == a) = false := by simpa using this
    rw [List.cons_append, List.idxOf_cons, ih (fun z => h (List.mem_cons_of_mem _ z)), qb]
    rfl
theorem nxt_app {l1 l2 : List Int} {a : Int} (h : a ∉ l1) : nxt (l1 ++ a :: l2) a = (l2 ++ l1 ++ [a]).headD 0 := by
  unfold nxt
  rw [idx_app h]
  cases l2 with
  | nil =>
    have e : (l1.length + 1) % (l1 ++ [a]).length = 0 := by rw [List.length_append, List.length_singleton, Nat.mod_self]
    rw [e]
    cases l1 <;> rfl
  | cons b l2 =>
    have e : (l1.length + 1) % (l1 ++ a :: b :: l2).length = l1.length + 1 := Nat.mod_eq_of_lt (by simp)
    rw [e, List.getElem?_append_right (by omega)]
    have : l1.length + 1 - l1.length = 1 := by omega
    rw [this]
    rfl
theorem nxt_mem {r : List Int} {u : Int} (h : u ∈ r) : nxt r u ∈ r := by
  obtain ⟨l1, l2, e, n, _⟩ := split_at h
  subst e
  rw [nxt_app n]
  cases l2 with
  | cons b l2 => simp
  | nil => cases l1 <;> simp
theorem nxt_ne {r : List Int} {u : Int} (h : u ∈ r) (nd : r.Nodup) (h2 : 2 ≤ r.length) : nxt r u ≠ u := by
  obtain ⟨l1, l2, e, n, _⟩ := split_at h
  subst e
  rw [nxt_app n]
  rw [List.nodup_append, List.nodup_cons] at nd
  cases l2 with
  | cons b l2 => exact fun z => nd.2.1.1 (by rw [← z]; exact List.mem_cons_self)
  | nil =>
    cases l1 with
    | nil => simp at h2
    | cons b l1 => exact fun z => n (by rw [← z]; exact List.mem_cons_self)
theorem ins_app {l1 l2 : List Int} {a p : Int} (h : a ∉ l1) : ins (l1 ++ a :: l2) a p = l1 ++ a :: p :: l2 := by
  unfold ins
  rw [idx_app h]
  have e : l1 ++ a :: l2 = (l1 ++ [a]) ++ l2 := by simp
  rw [e, List.take_left' (by simp), List.drop_left' (by simp)]
  simp
section
variable {r : List Int} {a p b : Int} (h : a ∈ r) (hp : p ∉ r)
include h hp
theorem mem_ins {x : Int} : x ∈ ins r a p ↔ x ∈ r ∨ x = p := by
  obtain ⟨l1, l2, e, n, _⟩ := split_at h
  subst e
  rw [ins_app n]
  simp only [List.mem_append, List.mem_cons]
  constructor
  · rintro (q | q | q | q)
    · exact .inl (.inl q)
    · exact .inl (.inr (.inl q))
    · exact .inr q
    · exact .inl (.inr (.inr q))
  · rintro ((q | q | q) | q)
    · exact .inl q
    · exact .inr (.inl q)
    · exact .inr (.inr (.inr q))
    · exact .inr (.inr (.inl q))
theorem nodup_ins (nd : r.Nodup) : (ins r a p).Nodup := by
  obtain ⟨l1, l2, e, n, _⟩ := split_at h
  subst e
  rw [ins_app n]
  have e2 : (l1 ++ a :: p :: l2).Perm (p :: (l1 ++ a :: l2)) := by
    have : (l1 ++ a :: p :: l2) = (l1 ++ [a]) ++ p :: l2 := by simp
    rw [this]
    have : (l1 ++ a :: l2) = (l1 ++ [a]) ++ l2 := by simp
    rw [this]
    exact List.perm_middle
  exact e2.nodup_iff.mpr (List.nodup_cons.mpr ⟨hp, nd⟩)
theorem len_ins : (ins r a p).length = r.length + 1 := by
  obtain ⟨l1, l2, e, n, _⟩ := split_at h
  subst e
  rw [ins_app n]
  simp only [List.length_append, List.length_cons]
  omega
theorem nxt_ins_a : nxt (ins r a p) a = p := by
  obtain ⟨l1, l2, e, n, _⟩ := split_at h
  subst e
  rw [ins_app n, nxt_app n]
  rfl
theorem nxt_ins_p : nxt (ins r a p) p = nxt r a := by
  obtain ⟨l1, l2, e, n, _⟩ := split_at h
  subst e
  have h1 : p ∉ l1 ++ [a] := fun z => hp (by
    rcases List.mem_append.mp z with q | q
    · exact List.mem_append_left _ q
    · exact List.mem_append_right _ (by rw [List.mem_singleton.mp q]; exact List.mem_cons_self))
  rw [ins_app n, nxt_app n]
  have e : l1 ++ a :: p :: l2 = (l1 ++ [a]) ++ p :: l2 := by simp
  rw [e, nxt_app h1]
  cases l2 with
  | cons b l2 => rfl
  | nil => cases l1 <;> rfl
theorem nxt_ins_b (hb : b ∈ r) (hn : b ≠ a) (nd : r.Nodup) : nxt (ins r a p) b = nxt r b := by
  obtain ⟨l1, l2, e, n, _⟩ := split_at h
  subst e
  rw [ins_app n]
  rw [List.nodup_append, List.nodup_cons] at nd
  have hb' : b ∈ l1 ∨ b ∈ l2 := by
    rcases List.mem_append.mp hb with q | q
    · exact .inl q
    · exact .inr ((List.mem_cons.mp q).resolve_left hn)
  have pb : p ≠ b := fun z => hp (by rw [z]; exact hb)
  rcases hb' with q | q
  · obtain ⟨m1, m2, e, n2, _⟩ := split_at q
    subst e
    have e1 : m1 ++ b :: m2 ++ a :: l2 = m1 ++ b :: (m2 ++ a :: l2) := by simp
    have e2 : m1 ++ b :: m2 ++ a :: p :: l2 = m1 ++ b :: (m2 ++ a :: p :: l2) := by simp
    rw [e1, e2, nxt_app n2, nxt_app n2]
    cases m2 <;> rfl
  · obtain ⟨m1, m2, e, n2, _⟩ := split_at q
    subst e
    have h0 : b ∉ l1 := fun z => nd.2.2 b z b (List.mem_cons_of_mem _ q) rfl
    have h1 : b ∉ l1 ++ a :: m1 := fun z => by
      rcases List.mem_append.mp z with w | w
      · exact h0 w
      · rcases List.mem_cons.mp w with w | w
        · exact hn w
        · exact n2 w
    have h2 : b ∉ l1 ++ a :: p :: m1 := fun z => by
      rcases List.mem_append.mp z with w | w
      · exact h0 w
      · rcases List.mem_cons.mp w with w | w
        · exact hn w
        · rcases List.mem_cons.mp w with w | w
          · exact pb w.symm
          · exact n2 w
    have e1 : l1 ++ a :: (m1 ++ b :: m2) = (l1 ++ a :: m1) ++ b :: m2 := by simp
    have e2 : l1 ++ a :: p :: (m1 ++ b :: m2) = (l1 ++ a :: p :: m1) ++ b :: m2 := by simp
    rw [e1, e2, nxt_app h1, nxt_app h2]
    cases m2 with
    | cons c m2 => rfl
    | nil => cases l1 <;> rfl
end
/-! ### three-cornered webs -/
structure Tri (W : WL) : Prop where
  nd : (keysOf' W).Nodup
  row : ∀ u r, rowOf W u = some r → r.Nodup ∧ u ∉ r ∧ 2 ≤ r.length
  sym : ∀ u v r, rowOf W u = some r → v ∈ r → ∃ r', rowOf W v = some r' ∧ u ∈ r'
  face : ∀ u v r r' rw, rowOf W u = some r → v ∈ r → rowOf W v = some r' → rowOf W (nxt r' u) = some rw → nxt rw v = u
def standIn (W : WL) (p x y z : Int) (rx ry rz : List Int) : WL := putRow (putRow (putRow (putRow W y (ins ry x p)) z (ins rz y p)) x (ins rx z p)) p [y, x, z]
theorem nx3 {y x z : Int} (h1 : y ≠ x) (h2 : y ≠ z) (h3 : x ≠ z) : nxt [y, x, z] y = x ∧ nxt [y, x, z] x = z ∧ nxt [y, x, z] z = y := by
  refine ⟨?_, ?_, ?_⟩
  · exact nxt_app (l1 := []) (l2 := [x, z]) (by simp)
  · exact nxt_app (l1 := [y]) (l2 := [z]) (by simp; exact fun e => h1 e.symm)
  · exact nxt_app (l1 := [y, x]) (l2 := []) (by simp; exact ⟨fun e => h2 e.symm, fun e => h3 e.symm⟩)
/-- a face's three points -/
theorem Tri.corners {W : WL} (T : Tri W) {x y : Int} {rx ry : List Int} (ex : rowOf W x = some rx) (hy : y ∈ rx) (ey : rowOf W y = some ry) : x ∈ ry ∧ ∃ rz, rowOf W (nxt ry x) = some rz ∧ nxt ry x ∈ ry ∧ y ∈ rz ∧ nxt ry x ∈ rx ∧ x ∈ rz ∧ y ≠ x ∧ y ≠ nxt ry x ∧ x ≠ nxt ry x ∧ nxt rz y = x ∧ nxt rx (nxt ry x) = y := by
  obtain ⟨ry', ey', hx⟩ := T.sym x y rx ex hy
  rw [ey] at ey'; cases ey'
  obtain ⟨n1, n2, n3⟩ := T.row x rx ex
  obtain ⟨n4, n5, n6⟩ := T.row y ry ey
  have hz := nxt_mem hx
  obtain ⟨rz, ez, hyz⟩ := T.sym y (nxt ry x) ry ey hz
  have f1 := T.face x y rx ry rz ex hy ey ez
  have hxz : x ∈ rz := by rw [← f1]; exact nxt_mem hyz
  obtain ⟨rx', ex', hzx⟩ := T.sym (nxt ry x) x rz ez hxz
  rw [ex] at ex'; cases ex'
  have f2 := T.face y (nxt ry x) ry rz rx ey hz ez (by rw [f1]; exact ex)
  exact ⟨hx, rz, ez, hz, hyz, hzx, hxz, fun e => n2 (by rw [← e]; exact hy), fun e => n5 (by rw [e]; exact hz), fun e => nxt_ne hx n4 n6 e.symm, f1, f2⟩
theorem Tri.stand {W : WL} (T : Tri W) {p x y : Int} {rx ry rz : List Int} (ex : rowOf W x = some rx) (hy : y ∈ rx) (ey : rowOf W y = some ry) (ez : rowOf W (nxt ry x) = some rz) (hp : p ∉ keysOf' W) :
    Tri (standIn W p x y (nxt ry x) rx ry rz) ∧ (∀ u, rowOf (standIn W p x y (nxt ry x) rx ry rz) u = if u = p then some [y, x, nxt ry x] else if u = x then some (ins rx (nxt ry x) p) else if u = nxt ry x then some (ins rz y p) else if u = y then some (ins ry x p) else rowOf W u) ∧ keysOf' (standIn W p x y (nxt ry x) rx ry rz) = keysOf' W ++ [p] := by
  obtain ⟨hx, rz', ez', hz, hyz, hzx, hxz, d1, d2, d3, f1, f2⟩ := T.corners ex hy ey
  rw [ez] at ez'; cases ez'
  generalize hze : nxt ry x = z at *
  have f0 : nxt ry x = z := hze
  have np : ∀ u r, rowOf W u = some r → u ≠ p ∧ p ∉ r := fun u r e => ⟨fun q => hp (by rw [← q]; exact rowOf_mem e), fun q => by
    obtain ⟨r', e', _⟩ := T.sym u p r e q
    exact hp (rowOf_mem e')⟩
  obtain ⟨px, pxr⟩ := np x rx ex
  obtain ⟨py, pyr⟩ := np y ry ey
  obtain ⟨pz, pzr⟩ := np z rz ez
  obtain ⟨nx, nx2, nx3'⟩ := T.row x rx ex
  obtain ⟨ny, ny2, ny3⟩ := T.row y ry ey
  obtain ⟨nz, nz2, nz3⟩ := T.row z rz ez
  have RO : ∀ u, rowOf (standIn W p x y z rx ry rz) u = if u = p then some [y, x, z] else if u = x then some (ins rx z p) else if u = z then some (ins rz y p) else if u = y then some (ins ry x p) else rowOf W u := fun u => by
    unfold standIn
    rw [rowOf_put, rowOf_put, rowOf_put, rowOf_put]
  obtain ⟨t1, t2, t3⟩ := nx3 d1 d2 d3
  have KO : keysOf' (standIn W p x y z rx ry rz) = keysOf' W ++ [p] := by
    have k1 : keysOf' (putRow W y (ins ry x p)) = keysOf' W := by rw [keys_put, if_pos (rowOf_mem ey)]
    have k2 : keysOf' (putRow (putRow W y (ins ry x p)) z (ins rz y p)) = keysOf' W := by rw [keys_put, k1, if_pos (rowOf_mem ez)]
    have k3 : keysOf' (putRow (putRow (putRow W y (ins ry x p)) z (ins rz y p)) x (ins rx z p)) = keysOf' W := by rw [keys_put, k2, if_pos (rowOf_mem ex)]
    unfold standIn
    rw [keys_put, k3, if_neg hp]
  have Rp : rowOf (standIn W p x y z rx ry rz) p = some [y, x, z] := by rw [RO, if_pos rfl]
  have Rx : rowOf (standIn W p x y z rx ry rz) x = some (ins rx z p) := by rw [RO, if_neg px, if_pos rfl]
  have Rz : rowOf (standIn W p x y z rx ry rz) z = some (ins rz y p) := by rw [RO, if_neg pz, if_neg (fun e => d3 e.symm), if_pos rfl]
  have Ry : rowOf (standIn W p x y z rx ry rz) y = some (ins ry x p) := by rw [RO, if_neg py, if_neg d1, if_neg d2, if_pos rfl]
  have Ro : ∀ u, u ≠ p → u ≠ x → u ≠ y → u ≠ z → rowOf (standIn W p x y z rx ry rz) u = rowOf W u := fun u h1 h2 h3 h4 => by rw [RO, if_neg h1, if_neg h2, if_neg h4, if_neg h3]
  -- an old point's new row
  have old : ∀ u r, rowOf W u = some r → ∃ r', rowOf (standIn W p x y z rx ry rz) u = some r' ∧ (∀ v, v ∈ r' ↔ v ∈ r ∨ (v = p ∧ (u = x ∨ u = y ∨ u = z))) ∧ r'.Nodup ∧ r.length ≤ r'.length ∧
      (∀ b, b ∈ r → ¬ ((u = y ∧ b = x) ∨ (u = z ∧ b = y) ∨ (u = x ∧ b = z)) → nxt r' b = nxt r b) := by
    intro u r e
    obtain ⟨up, upr⟩ := np u r e
    obtain ⟨g1, g2, g3⟩ := T.row u r e
    by_cases qx : u = x
    · subst qx
      rw [ex] at e; cases e
      refine ⟨_, Rx, fun v => by rw [mem_ins hzx pxr]; simp, nodup_ins hzx pxr nx, by rw [len_ins hzx pxr]; omega, fun b hb hn => nxt_ins_b hzx pxr hb (fun z => hn (.inr (.inr ⟨rfl, z⟩))) nx⟩
    · by_cases qy : u = y
      · subst qy
        rw [ey] at e; cases e
        refine ⟨_, Ry, fun v => by rw [mem_ins hx pyr]; simp, nodup_ins hx pyr ny, by rw [len_ins hx pyr]; omega, fun b hb hn => nxt_ins_b hx pyr hb (fun z => hn (.inl ⟨rfl, z⟩)) ny⟩
      · by_cases qz : u = z
        · subst qz
          rw [ez] at e; cases e
          refine ⟨_, Rz, fun v => by rw [mem_ins hyz pzr]; simp, nodup_ins hyz pzr nz, by rw [len_ins hyz pzr]; omega, fun b hb hn => nxt_ins_b hyz pzr hb (fun z => hn (.inr (.inl ⟨rfl, z⟩))) nz⟩
        · refine ⟨r, by rw [Ro u up qx qy qz]; exact e, fun v => by simp [qx, qy, qz], g1, Nat.le_refl _, fun b _ _ => rfl⟩
  have back : ∀ u r', u ≠ p → rowOf (standIn W p x y z rx ry rz) u = some r' → ∃ r, rowOf W u = some r := fun u r' h e => by
    have hm := rowOf_mem e
    rw [KO] at hm
    rcases List.mem_append.mp hm with q | q
    · exact mem_rowOf q
    · exact absurd (List.mem_singleton.mp q) h
  refine ⟨⟨?_, ?_, ?_, ?_⟩, RO, KO⟩
  · rw [KO]
    exact List.nodup_append.mpr ⟨T.nd, by simp, fun a ha b hb => by rw [List.mem_singleton.mp hb]; rintro rfl; exact hp ha⟩
  · intro u r' e
    by_cases q : u = p
    · subst q
      rw [Rp] at e; cases e
      refine ⟨by simp [d1, d2, d3], by simp; exact ⟨fun e => py e.symm, fun e => px e.symm, fun e => pz e.symm⟩, by simp⟩
    · obtain ⟨r, er⟩ := back u r' q e
      obtain ⟨r2, e2, m2, n2, l2, _⟩ := old u r er
      rw [e] at e2; cases e2
      obtain ⟨g1, g2, g3⟩ := T.row u r er
      refine ⟨n2, fun hm => ?_, by omega⟩
      rcases (m2 u).mp hm with w | w
      · exact g2 w
      · exact q w.1
  · intro u v r' e hv
    by_cases q : u = p
    · subst q
      rw [Rp] at e; cases e
      simp only [List.mem_cons, List.not_mem_nil, or_false] at hv
      rcases hv with rfl | rfl | rfl
      · exact ⟨_, Ry, (mem_ins hx pyr).mpr (.inr rfl)⟩
      · exact ⟨_, Rx, (mem_ins hzx pxr).mpr (.inr rfl)⟩
      · exact ⟨_, Rz, (mem_ins hyz pzr).mpr (.inr rfl)⟩
    · obtain ⟨r, er⟩ := back u r' q e
      obtain ⟨r2, e2, m2, n2, l2, _⟩ := old u r er
      rw [e] at e2; cases e2
      rcases (m2 v).mp hv with w | ⟨rfl, w⟩
      · obtain ⟨rv, ev, hu⟩ := T.sym u v r er w
        obtain ⟨rv', ev', mv', _⟩ := old v rv ev
        exact ⟨rv', ev', (mv' u).mpr (.inl hu)⟩
      · exact ⟨_, Rp, by rcases w with rfl | rfl | rfl <;> simp⟩
  · intro u v ru rv rw' eu hv ev ew
    by_cases qv : v = p
    · -- behind p
      subst qv
      rw [Rp] at ev; cases ev
      have hu : u ≠ v := fun e => by
        subst e
        rw [Rp] at eu; cases eu
        simp at hv
        rcases hv with h | h | h
        · exact py h.symm
        · exact px h.symm
        · exact pz h.symm
      obtain ⟨r, er⟩ := back u ru hu eu
      obtain ⟨r2, e2, m2, _⟩ := old u r er
      rw [eu] at e2; cases e2
      rcases (m2 v).mp hv with w | ⟨_, w⟩
      · exact absurd w (np u r er).2
      · rcases w with rfl | rfl | rfl
        · rw [t2, Rz] at ew; cases ew
          rw [nxt_ins_p hyz pzr]; exact f1
        · rw [t1, Rx] at ew; cases ew
          rw [nxt_ins_p hzx pxr]; exact f2
        · rw [t3, Ry] at ew; cases ew
          rw [nxt_ins_p hx pyr]; exact f0
    · obtain ⟨r0, er0⟩ := back v rv qv ev
      obtain ⟨rv2, ev2, mv2, nv2, lv2, xv2⟩ := old v r0 er0
      rw [ev] at ev2; cases ev2
      by_cases qu : u = p
      · subst qu
        rw [Rp] at eu; cases eu
        simp only [List.mem_cons, List.not_mem_nil, or_false] at hv
        rcases hv with rfl | rfl | rfl
        · rw [Ry] at ev; cases ev
          rw [nxt_ins_p hx pyr, f0, Rz] at ew; cases ew
          exact nxt_ins_a hyz pzr
        · rw [Rx] at ev; cases ev
          rw [nxt_ins_p hzx pxr, f2, Ry] at ew; cases ew
          exact nxt_ins_a hx pyr
        · rw [Rz] at ev; cases ev
          rw [nxt_ins_p hyz pzr, f1, Rx] at ew; cases ew
          exact nxt_ins_a hzx pxr
      · obtain ⟨r, er⟩ := back u ru qu eu
        obtain ⟨ru2, eu2, mu2, _⟩ := old u r er
        rw [eu] at eu2; cases eu2
        have hv0 : v ∈ r := by
          rcases (mu2 v).mp hv with w | w
          · exact w
          · exact absurd w.1 qv
        obtain ⟨rv', ev', hu0⟩ := T.sym u v r er hv0
        rw [er0] at ev'; cases ev'
        by_cases c : (v = y ∧ u = x) ∨ (v = z ∧ u = y) ∨ (v = x ∧ u = z)
        · rcases c with ⟨rfl, rfl⟩ | ⟨rfl, rfl⟩ | ⟨rfl, rfl⟩
          · rw [Ry] at ev; cases ev
            rw [nxt_ins_a hx pyr, Rp] at ew; cases ew
            exact t1
          · rw [Rz] at ev; cases ev
            rw [nxt_ins_a hyz pzr, Rp] at ew; cases ew
            exact t3
          · rw [Rx] at ev; cases ev
            rw [nxt_ins_a hzx pxr, Rp] at ew; cases ew
            exact t2
        · rw [xv2 u hu0 c] at ew
          have hw := nxt_mem hu0
          obtain ⟨w0, ew0, hvw⟩ := T.sym v (nxt r0 u) r0 er0 hw
          have fo := T.face u v r r0 w0 er hv0 er0 ew0
          obtain ⟨rw2, ew2, mw2, nw2, lw2, xw2⟩ := old (nxt r0 u) w0 ew0
          rw [ew] at ew2; cases ew2
          rw [xw2 v hvw ?_]
          · exact fo
          · rintro (⟨g1, rfl⟩ | ⟨g1, rfl⟩ | ⟨g1, rfl⟩)
            · -- behind u stands y, v is x
              rw [g1, ey] at ew0; cases ew0
              exact c (.inr (.inr ⟨rfl, by rw [← fo]; exact f0⟩))
            · rw [g1, ez] at ew0; cases ew0
              exact c (.inl ⟨rfl, by rw [← fo]; exact f1⟩)
            · rw [g1, ex] at ew0; cases ew0
              exact c (.inr (.inl ⟨rfl, by rw [← fo]; exact f2⟩))
/-! ### reading and writing rows -/
theorem look_rows {h : MH} {d : MV} {W : WL} {u : Int} {r : List Int} (e : dictK h d = some (rowsV W)) (q : rowOf W u = some r) : lookM h d (.int u) = some (some (.lst (r.map .int))) := by
  simp only [lookM, e, keyOf, getK_rows, q, Option.map_some]
theorem look_webs {h : MH} {d : MV} {W : WL} {u : Int} {r : List Int} (e : dictK h d = some (websV W)) (q : rowOf W u = some r) : lookM h d (.int u) = some (some (.row (r.map .int))) := by
  simp only [lookM, e, keyOf, getK_webs, q, Option.map_some]
theorem ix_rows {h : MH} {m : Nat} {W : WL} {u : Int} {r : List Int} (e : h[m]? = some (.dK (rowsV W))) (q : rowOf W u = some r) : opIx h (.ref m) (.int u) = some (.lst (r.map .int)) := by
  have e1 : dictK h (.ref m) = some (rowsV W) := by simp only [dictK, e]
  simp only [opIx, seqOf, listOf, e, look_rows e1 q]
theorem ix_rowsV {h : MH} {W : WL} {u : Int} {r : List Int} (q : rowOf W u = some r) : opIx h (.dK (rowsV W)) (.int u) = some (.lst (r.map .int)) := by
  simp only [opIx, seqOf, listOf, look_rows (h := h) (d := .dK (rowsV W)) rfl q]
theorem ix_websV {h : MH} {W : WL} {u : Int} {r : List Int} (q : rowOf W u = some r) : opIx h (.dK (websV W)) (.int u) = some (.row (r.map .int)) := by
  simp only [opIx, seqOf, listOf, look_webs (h := h) (d := .dK (websV W)) rfl q]
theorem put_rows {h : MH} {m : Nat} {W : WL} {u : Int} {r : List Int} (e : h[m]? = some (.dK (rowsV W))) (hz : W.length < szLine) : stM h (.ref m) (.int u) (.lst (r.map .int)) = some (h.set m (.dK (rowsV (putRow W u r)))) := by
  have hz' : (rowsV W).length < szLine := by simpa [rowsV] using hz
  simp only [stM, e, keyOf, hz', if_true, putM_rows]
theorem put_webs {h : MH} {m : Nat} {W : WL} {u : Int} {r : List Int} (e : h[m]? = some (.dK (websV W))) (hz : W.length < szLine) : stM h (.ref m) (.int u) (.row (r.map .int)) = some (h.set m (.dK (websV (putRow W u r)))) := by
  have hz' : (websV W).length < szLine := by simpa [websV] using hz
  simp only [stM, e, keyOf, hz', if_true, putM_webs]
theorem keysV_rows (W : WL) : (rowsV W).map (fun kv => keyV kv.1) = (keysOf' W).map .int := by
  simp [rowsV, keysOf', keyV, List.map_map, Function.comp_def]
theorem keysV_webs (W : WL) : (websV W).map (fun kv => keyV kv.1) = (keysOf' W).map .int := by
  simp [websV, keysOf', keyV, List.map_map, Function.comp_def]
theorem plain_rows : ∀ W : WL, plainK (rowsV W) = true
  | [] => rfl
  | p :: W => by simp only [rowsV, List.map_cons, plainK, plainV, plain_ints, Bool.true_and]; exact plain_rows W
theorem plain_webs : ∀ W : WL, plainK (websV W) = true
  | [] => rfl
  | p :: W => by simp only [websV, List.map_cons, plainK, plainV, plain_ints, Bool.true_and]; exact plain_webs W
theorem keys_len (W : WL) : (keysOf' W).length = W.length := by simp [keysOf']
/-! ### webs -/
structure Web (W : WL) : Prop where
  nd : (keysOf' W).Nodup
  row : ∀ u r, rowOf W u = some r → r.Nodup ∧ u ∉ r
  sym : ∀ u v r, rowOf W u = some r → v ∈ r → ∃ r', rowOf W v = some r' ∧ u ∈ r'
theorem Tri.web {W : WL} (T : Tri W) : Web W := ⟨T.nd, fun u r e => ⟨(T.row u r e).1, (T.row u r e).2.1⟩, T.sym⟩
/-- a web's rows changed, each within what it was -/
def mapRows (f : Int → List Int → List Int) (W : WL) : WL := W.map fun p => (p.1, f p.1 p.2)
theorem rowOf_map (f : Int → List Int → List Int) : ∀ (W : WL) (u : Int), rowOf (mapRows f W) u = (rowOf W u).map (f u)
  | [], u => rfl
  | p :: W, u => by
    show rowOf ((p.1, f p.1 p.2) :: mapRows f W) u = _
    rw [rowOf, rowOf, rowOf_map f W u]
    split
    · rename_i h
      have h' : p.1 = u := h
      rw [h']; rfl
    · rfl
theorem keys_map (f : Int → List Int → List Int) (W : WL) : keysOf' (mapRows f W) = keysOf' W := by simp [keysOf', mapRows, Function.comp_def]
theorem Web.thin {W : WL} (w : Web W) (P : Int → Int → Bool) (hs : ∀ u v, P u v = P v u) : Web (mapRows (fun u r => r.filter (P u)) W) := by
  refine ⟨by rw [keys_map]; exact w.nd, fun u r e => ?_, fun u v r e hv => ?_⟩
  · rw [rowOf_map] at e
    cases q : rowOf W u with
    | none => rw [q] at e; cases e
    | some r0 =>
      rw [q] at e
      cases e
      exact ⟨(w.row u r0 q).1.filter _, fun h => (w.row u r0 q).2 (List.mem_filter.mp h).1⟩
  · rw [rowOf_map] at e
    cases q : rowOf W u with
    | none => rw [q] at e; cases e
    | some r0 =>
      rw [q] at e
      cases e
      obtain ⟨h1, h2⟩ := List.mem_filter.mp hv
      obtain ⟨r', e', hu⟩ := w.sym u v r0 q h1
      refine ⟨_, by rw [rowOf_map, e']; rfl, List.mem_filter.mpr ⟨hu, by rw [hs]; exact h2⟩⟩
theorem Web.perm {W V : WL} (w : Web W) (f : Int → List Int → List Int) (hp : V.Perm W) (hf : ∀ u r, (f u r).Perm r) : Web (mapRows f V) := by
  have nd : (keysOf' V).Nodup := (hp.map _).nodup_iff.mpr w.nd
  have ro : ∀ u r, rowOf V u = some r ↔ rowOf W u = some r := fun u r => ⟨fun e => rowOf_of_mem w.nd (hp.mem_iff.mp (mem_of_rowOf e)), fun e => rowOf_of_mem nd (hp.mem_iff.mpr (mem_of_rowOf e))⟩
  refine ⟨by rw [keys_map]; exact nd, fun u r e => ?_, fun u v r e hv => ?_⟩
  · rw [rowOf_map] at e
    cases q : rowOf V u with
    | none => rw [q] at e; cases e
    | some r0 =>
      rw [q] at e
      cases e
      obtain ⟨h1, h2⟩ := w.row u r0 ((ro u r0).mp q)
      exact ⟨(hf u r0).nodup_iff.mpr h1, fun h => h2 ((hf u r0).mem_iff.mp h)⟩
  · rw [rowOf_map] at e
    cases q : rowOf V u with
    | none => rw [q] at e; cases e
    | some r0 =>
      rw [q] at e
      cases e
      obtain ⟨r', e', hu⟩ := w.sym u v r0 ((ro u r0).mp q) ((hf u r0).mem_iff.mp hv)
      exact ⟨_, by rw [rowOf_map, (ro v r').mpr e']; rfl, (hf v r').mem_iff.mpr hu⟩
theorem Web.join {W V : WL} (w : Web W) (v : Web V) (hd : ∀ u, u ∈ keysOf' W → u ∉ keysOf' V) : Web (W ++ V) := by
  have k : keysOf' (W ++ V) = keysOf' W ++ keysOf' V := by simp [keysOf']
  have ro : ∀ u r, rowOf (W ++ V) u = some r ↔ rowOf W u = some r ∨ rowOf V u = some r := fun u r => by
    rw [rowOf_app]
    cases q : rowOf W u with
    | none => simp
    | some r0 =>
      have : rowOf V u = none := rowOf_none (hd u (rowOf_mem q))
      simp [this]
  refine ⟨by rw [k]; exact List.nodup_append.mpr ⟨w.nd, v.nd, fun a ha b hb e => hd a ha (by rw [e]; exact hb)⟩, fun u r e => ?_, fun u x r e hx => ?_⟩
  · rcases (ro u r).mp e with q | q
    · exact w.row u r q
    · exact v.row u r q
  · rcases (ro u r).mp e with q | q
    · obtain ⟨r', e', h⟩ := w.sym u x r q hx
      exact ⟨r', (ro x r').mpr (.inl e'), h⟩
    · obtain ⟨r', e', h⟩ := v.sym u x r q hx
      exact ⟨r', (ro x r').mpr (.inr e'), h⟩
theorem web_nil : Web [] := ⟨List.nodup_nil, fun u r e => by simp [rowOf] at e, fun u v r e => by simp [rowOf] at e⟩
theorem rowOf_empties : ∀ (ns : List Int) (u : Int) (r : List Int), rowOf (ns.map fun p => (p, [])) u = some r → r = []
  | [], u, r, e => by simp [rowOf] at e
  | p :: ns, u, r, e => by
    rw [List.map_cons, rowOf] at e
    split at e
    · cases e; rfl
    · exact rowOf_empties ns u r e
theorem web_empties {ns : List Int} (nd : ns.Nodup) : Web (ns.map fun p => (p, [])) := by
  refine ⟨by simpa [keysOf', Function.comp_def] using nd, fun u r e => ?_, fun u v r e hv => ?_⟩
  · rw [rowOf_empties ns u r e]; exact ⟨List.nodup_nil, by simp⟩
  · rw [rowOf_empties ns u r e] at hv; cases hv
theorem nx2 {b c : Int} (h : b ≠ c) : nxt [b, c] b = c ∧ nxt [b, c] c = b := ⟨nxt_app (l1 := []) (l2 := [c]) (by simp), nxt_app (l1 := [b]) (l2 := []) (by simp; exact fun e => h e.symm)⟩
def tri0 (a b c : Int) : WL := [(a, [b, c]), (b, [c, a]), (c, [a, b])]
theorem tri0_ok {a b c : Int} (h1 : a ≠ b) (h2 : a ≠ c) (h3 : b ≠ c) : Tri (tri0 a b c) := by
  have ro : ∀ u r, rowOf (tri0 a b c) u = some r ↔ (u = a ∧ r = [b, c]) ∨ (u = b ∧ r = [c, a]) ∨ (u = c ∧ r = [a, b]) := fun u r => by
    simp only [tri0, rowOf]
    by_cases q1 : a = u
    · subst q1; simp [h1, h2]; exact eq_comm
    · by_cases q2 : b = u
      · subst q2; simp [h1, h3, Ne.symm h1]; exact eq_comm
      · by_cases q3 : c = u
        · subst q3; simp [h2, h3, Ne.symm h2, Ne.symm h3]; exact eq_comm
        · have : ¬ u = a := fun z => q1 z.symm
          have : ¬ u = b := fun z => q2 z.symm
          have : ¬ u = c := fun z => q3 z.symm
          simp [*]
  obtain ⟨a1, a2⟩ := nx2 h3
  obtain ⟨b1, b2⟩ := nx2 (Ne.symm h2)
  obtain ⟨c1, c2⟩ := nx2 h1
  refine ⟨by simp [keysOf', tri0, h1, h2, h3], fun u r e => ?_, fun u v r e hv => ?_, fun u v r r' rw' e hv ev ew => ?_⟩
  · rcases (ro u r).mp e with ⟨rfl, rfl⟩ | ⟨rfl, rfl⟩ | ⟨rfl, rfl⟩
    · simp [h1, h2, h3]
    · simp [h1, h2, h3, Ne.symm h1, Ne.symm h2]
    · simp [h1, h2, h3, Ne.symm h2, Ne.symm h3]
  · rcases (ro u r).mp e with ⟨rfl, rfl⟩ | ⟨rfl, rfl⟩ | ⟨rfl, rfl⟩ <;> simp only [List.mem_cons, List.not_mem_nil, or_false] at hv <;> rcases hv with rfl | rfl
    · exact ⟨_, (ro _ _).mpr (.inr (.inl ⟨rfl, rfl⟩)), by simp⟩
    · exact ⟨_, (ro _ _).mpr (.inr (.inr ⟨rfl, rfl⟩)), by simp⟩
    · exact ⟨_, (ro _ _).mpr (.inr (.inr ⟨rfl, rfl⟩)), by simp⟩
    · exact ⟨_, (ro _ _).mpr (.inl ⟨rfl, rfl⟩), by simp⟩
    · exact ⟨_, (ro _ _).mpr (.inl ⟨rfl, rfl⟩), by simp⟩
    · exact ⟨_, (ro _ _).mpr (.inr (.inl ⟨rfl, rfl⟩)), by simp⟩
  · have ra : rowOf (tri0 a b c) a = some [b, c] := (ro _ _).mpr (.inl ⟨rfl, rfl⟩)
    have rb : rowOf (tri0 a b c) b = some [c, a] := (ro _ _).mpr (.inr (.inl ⟨rfl, rfl⟩))
    have rc : rowOf (tri0 a b c) c = some [a, b] := (ro _ _).mpr (.inr (.inr ⟨rfl, rfl⟩))
    rcases (ro u r).mp e with ⟨rfl, rfl⟩ | ⟨rfl, rfl⟩ | ⟨rfl, rfl⟩ <;> simp only [List.mem_cons, List.not_mem_nil, or_false] at hv <;> rcases hv with rfl | rfl
    · rw [rb] at ev; cases ev; rw [b2, rc] at ew; cases ew; exact c2
    · rw [rc] at ev; cases ev; rw [c1, rb] at ew; cases ew; exact b1
    · rw [rc] at ev; cases ev; rw [c2, ra] at ew; cases ew; exact a2
    · rw [ra] at ev; cases ev; rw [a1, rc] at ew; cases ew; exact c1
    · rw [ra] at ev; cases ev; rw [a2, rb] at ew; cases ew; exact b2
    · rw [rb] at ev; cases ev; rw [b1, ra] at ew; cases ew; exact a1
theorem step_inj {b y i j : Int} (hy : y = 1 ∨ y = 3 ∨ y = 7 ∨ y = 9 ∨ y = 11 ∨ y = 13 ∨ y = 271 ∨ y = 389 ∨ y = 613 ∨ y = 997) (hi : 0 ≤ i ∧ i < 1000) (hj : 0 ≤ j ∧ j < 1000) (e : (b + i * y) % 1000 = (b + j * y) % 1000) : i = j := by
  have h2 : (1000 : Int) ∣ (b + i * y) - (b + j * y) := Int.dvd_of_emod_eq_zero (by rw [Int.sub_emod, e, Int.sub_self]; rfl)
  obtain ⟨m, hm⟩ := h2
  have h3 : (i - j) * y = 1000 * m := by rw [Int.sub_mul]; omega
  have key : ∀ z t : Int, y * z = 1 + 1000 * t → i = j := fun z t q => by
    have h4 : (i - j) * (y * z) = 1000 * (m * z) := by rw [← Int.mul_assoc, h3, Int.mul_assoc]
    rw [q, Int.mul_add, Int.mul_one] at h4
    have h5 : (i - j) * (1000 * t) = 1000 * ((i - j) * t) := by rw [← Int.mul_assoc, Int.mul_comm (i - j) 1000, Int.mul_assoc]
    rw [h5] at h4
    omega
  rcases hy with rfl | rfl | rfl | rfl | rfl | rfl | rfl | rfl | rfl | rfl
  · exact key 1 0 (by decide)
  · exact key 667 2 (by decide)
  · exact key 143 1 (by decide)
  · exact key 889 8 (by decide)
  · exact key 91 1 (by decide)
  · exact key 77 1 (by decide)
  · exact key 631 171 (by decide)
  · exact key 509 198 (by decide)
  · exact key 677 415 (by decide)
  · exact key 333 332 (by decide)
theorem few : ∀ (n : Nat) (r : List Int), r.Nodup → (∀ v ∈ r, 0 ≤ v ∧ v < n) → r.length ≤ n
  | 0, r, _, h => by
    cases r with
    | nil => simp
    | cons x r => have := h x List.mem_cons_self; omega
  | n + 1, r, nd, h => by
    have h1 := few n (r.erase (n : Int)) (nd.erase _) (fun v hv => by
      have h2 := h v (List.mem_of_mem_erase hv)
      have h3 : v ≠ (n : Int) := fun e => by
        rw [e] at hv
        exact (List.Nodup.not_mem_erase nd) hv
      omega)
    by_cases q : (n : Int) ∈ r
    · rw [List.length_erase_of_mem q] at h1; omega
    · rw [List.erase_of_not_mem q] at h1; omega
theorem Web.len {W : WL} (w : Web W) (hn : ∀ u ∈ keysOf' W, 0 ≤ u ∧ u < 1000) {u : Int} {r : List Int} (e : rowOf W u = some r) : r.length ≤ 1000 :=
  few 1000 r (w.row u r e).1 fun v hv => by
    obtain ⟨r', e', _⟩ := w.sym u v r e hv
    exact hn v (rowOf_mem e')
theorem keys_app (W V : WL) : keysOf' (W ++ V) = keysOf' W ++ keysOf' V := by simp [keysOf']
theorem put_app {W : WL} {u : Int} {r : List Int} (h : u ∉ keysOf' W) : putRow W u r = W ++ [(u, r)] := by
  unfold putRow
  rw [rowOf_none h]
  rfl
theorem merge_rows : ∀ (V W : WL), (keysOf' V).Nodup → (∀ u ∈ keysOf' V, u ∉ keysOf' W) → mergeM (rowsV W) (rowsV V) = rowsV (W ++ V)
  | [], W, _, _ => by simp [rowsV, mergeM]
  | (u, r) :: V, W, nd, h => by
    have nd' : u ∉ keysOf' V ∧ (keysOf' V).Nodup := by simpa [keysOf'] using nd
    have e : mergeM (rowsV W) (rowsV ((u, r) :: V)) = mergeM (putM (rowsV W) (.inl u) (.lst (r.map .int))) (rowsV V) := rfl
    rw [e, putM_rows, put_app (h u (by simp [keysOf'])), merge_rows V (W ++ [(u, r)]) nd'.2 (fun x hx => by
      rw [keys_app]
      intro hm
      rcases List.mem_append.mp hm with q | q
      · exact h x (by simp [keysOf'] at hx ⊢; exact .inr hx) q
      · have : x = u := by simpa [keysOf'] using q
        exact nd'.1 (by rw [← this]; exact hx))]
    simp
/-! ### dicts of what was seen -/
def seenV (S : List Int) : List (MK × MV) := S.map fun p => (.inl p, .bl true)
theorem getK_seen : ∀ (S : List Int) (p : Int), getK (seenV S) (.inl p) = if p ∈ S then some (.bl true) else none
  | [], p => by simp [seenV, getK_nil]
  | x :: S, p => by
    have ih := getK_seen S p
    unfold seenV at ih ⊢
    rw [List.map_cons, getK_cons, ih]
    by_cases q : x = p
    · subst q; simp
    · have : ¬ p = x := fun z => q z.symm
      rw [if_neg (fun z => q (Sum.inl.inj z))]
      simp [this]
theorem look_seen {h : MH} {d : MV} {S : List Int} (e : dictK h d = some (seenV S)) (p : Int) : lookM h d (.int p) = some (if p ∈ S then some (.bl true) else none) := by
  simp only [lookM, e, keyOf, getK_seen]
theorem in_seen {h : MH} {m : Nat} {S : List Int} (e : h[m]? = some (.dK (seenV S))) (p : Int) : opIn h (.int p) (.ref m) = some (.bl (decide (p ∈ S))) := by
  have e1 : dictK h (.ref m) = some (seenV S) := by simp only [dictK, e]
  simp only [opIn, seqOf, listOf, e, look_seen e1, Option.map_some]
  by_cases q : p ∈ S <;> simp [q]
theorem notin_seen {h : MH} {m : Nat} {S : List Int} (e : h[m]? = some (.dK (seenV S))) (p : Int) : opNotIn h (.int p) (.ref m) = some (.bl (!decide (p ∈ S))) := by
  have e1 : dictK h (.ref m) = some (seenV S) := by simp only [dictK, e]
  simp only [opNotIn, seqOf, listOf, e, look_seen e1, Option.map_some]
  by_cases q : p ∈ S <;> simp [q]
theorem put_seen {h : MH} {m : Nat} {S : List Int} {p : Int} (e : h[m]? = some (.dK (seenV S))) (hp : p ∉ S) (hz : S.length < szLine) : stM h (.ref m) (.int p) (.bl true) = some (h.set m (.dK (seenV (S ++ [p])))) := by
  have hz' : (seenV S).length < szLine := by simpa [seenV] using hz
  have e2 : putM (seenV S) (.inl p) (.bl true) = seenV (S ++ [p]) := by
    unfold putM
    have : ((seenV S).any fun kv => decide (kv.1 = .inl p)) = false := by
      rw [List.any_eq_false]
      intro kv hk
      obtain ⟨x, hx, rfl⟩ := List.mem_map.mp hk
      have : x ≠ p := fun z => hp (by rw [← z]; exact hx)
      simpa using this
    rw [this]
    simp [seenV]
  simp only [stM, e, keyOf, hz', if_true, e2]
/-- a web's keys asked for -/
theorem in_webs (h : MH) (W : WL) (p : Int) : opIn h (.int p) (.dK (websV W)) = some (.bl (decide (p ∈ keysOf' W))) := by
  have e1 : lookM h (.dK (websV W)) (.int p) = some ((rowOf W p).map fun r => .row (r.map .int)) := by simp only [lookM, dictK, keyOf, getK_webs]
  simp only [opIn, seqOf, listOf, e1, Option.map_some]
  have := rowOf_some W p
  cases q : rowOf W p with
  | none => rw [q] at this; simp at this; simp [this]
  | some r => rw [q] at this; simp at this; simp [this]
theorem isD_rints (n : Nat) (xs : List Int) : isD (n + 1) (.row (xs.map .int)) = true := by simp only [isD]; exact isDs_ints n xs
theorem isDs_webs : ∀ (W : WL), dataKs (websV W) = true
  | [] => rfl
  | p :: W => by
    have ih := isDs_webs W
    unfold dataKs websV at ih ⊢
    rw [List.map_cons, List.all_cons, isD_rints 49, ih]
    rfl
theorem eqD_tints (xs ys : List Int) : eqD (.tup (xs.map .int)) (.tup (ys.map .int)) = (xs == ys) := by simp only [eqD, eqDs_ints]
theorem eqD_rints (xs ys : List Int) : eqD (.row (xs.map .int)) (.row (ys.map .int)) = (xs == ys) := by simp only [eqD, eqDs_ints]
theorem eqKs_webs {W : WL} (nd : (keysOf' W).Nodup) : eqKs (websV W) (websV W) = true := by
  unfold eqKs
  rw [beq_self_eq_true, Bool.true_and, List.all_eq_true]
  intro kv hm
  obtain ⟨p, hp, rfl⟩ := List.mem_map.mp hm
  have := rowOf_of_mem nd (show (p.1, p.2) ∈ W from hp)
  simp only [getK_webs, this, Option.map_some, eqD_rints, beq_self_eq_true]
theorem eq_webs (h : MH) {W : WL} (nd : (keysOf' W).Nodup) : opEq h (.dK (websV W)) (.dK (websV W)) = some (.bl true) := by
  simp only [opEq, dictK, isDs_webs, Bool.and_self, if_true, eqKs_webs nd]
theorem ne_webs (h : MH) {W : WL} (nd : (keysOf' W).Nodup) : opNe h (.dK (websV W)) (.dK (websV W)) = some (.bl false) := by
  simp only [opNe, dictK, isDs_webs, Bool.and_self, if_true, eqKs_webs nd]; rfl
theorem dict_webs : ∀ (V W : WL), (keysOf' V).Nodup → (∀ u ∈ keysOf' V, u ∉ keysOf' W) → mergeM (websV W) (websV V) = websV (W ++ V)
  | [], W, _, _ => by simp [websV, mergeM]
  | (u, r) :: V, W, nd, h => by
    have nd' : u ∉ keysOf' V ∧ (keysOf' V).Nodup := by simpa [keysOf'] using nd
    have e : mergeM (websV W) (websV ((u, r) :: V)) = mergeM (putM (websV W) (.inl u) (.row (r.map .int))) (websV V) := rfl
    rw [e, putM_webs, put_app (h u (by simp [keysOf'])), dict_webs V (W ++ [(u, r)]) nd'.2 (fun x hx => by
      rw [keys_app]
      intro hm
      rcases List.mem_append.mp hm with q | q
      · exact h x (by simp [keysOf'] at hx ⊢; exact .inr hx) q
      · have : x = u := by simpa [keysOf'] using q
        exact nd'.1 (by rw [← this]; exact hx))]
    simp
theorem pairs_webs : ∀ W : WL, pairsK (W.map fun p => .tup [.int p.1, .row (p.2.map .int)]) = some (websV W)
  | [] => rfl
  | p :: W => by
    rw [List.map_cons, pairsK]
    simp only [keyOf, pairs_webs W]
    rfl
theorem ints_of_map : ∀ xs : List Int, intsOf (xs.map .int) = some xs
  | [] => rfl
  | x :: xs => by rw [List.map_cons, intsOf, ints_of_map xs]; rfl
theorem sortI_perm (xs : List Int) : (sortI xs).Perm xs := List.mergeSort_perm _ _
theorem sortI_sorted (xs : List Int) : (sortI xs).Pairwise (· ≤ ·) := by
  have := List.pairwise_mergeSort (le := fun x y : Int => decide (x ≤ y)) (fun a b c h1 h2 => by simp at *; omega) (fun a b => by simp; omega) xs
  exact this.imp fun h => by simpa using h
theorem sorted_tup (h : MH) (xs : List Int) : fSorted h [.tup (xs.map .int)] = some (.lst ((sortI xs).map .int)) := by
  simp only [fSorted, seqOf, ints_of_map]
theorem sorted_lst (h : MH) (xs : List Int) : fSorted h [.lst (xs.map .int)] = some (.lst ((sortI xs).map .int)) := by
  simp only [fSorted, seqOf, listOf, ints_of_map]
theorem keysS_webs (h : MH) (W : WL) : fKeysS h (.dK (websV W)) = some (.lst ((sortI (keysOf' W)).map .int)) := by
  simp only [fKeysS, dictK, keysV_webs, ints_of_map, Option.map_some]
theorem keysT_webs (h : MH) (W : WL) : fKeysT h (.dK (websV W)) = some (.tup ((keysOf' W).map .int)) := by
  simp only [fKeysT, dictK, keysV_webs, Option.map_some]
theorem keysL_webs (h : MH) (W : WL) : fKeys h (.dK (websV W)) = some (.lst ((keysOf' W).map .int)) := by
  simp only [fKeys, dictK, keysV_webs, Option.map_some]
theorem take_snoc {α : Type} {W : List α} {i : Nat} {p : α} (e : W[i]? = some p) : W.take (i + 1) = W.take i ++ [p] := by rw [List.take_add_one, e]; rfl
theorem enumM_at' : ∀ (xs : List MV) (k i : Nat), (enumM k xs)[i]? = xs[i]?.map fun x => .tup [.int ((k + i : Nat) : Int), x]
  | [], k, i => by simp [enumM]
  | x :: xs, k, 0 => by simp [enumM]
  | x :: xs, k, i + 1 => by
    simp only [enumM, List.getElem?_cons_succ, enumM_at' xs (k + 1) i]
    rw [show k + 1 + i = k + (i + 1) by omega]
theorem enumM_len' : ∀ (xs : List MV) (k : Nat), (enumM k xs).length = xs.length
  | [], k => rfl
  | x :: xs, k => by simp [enumM, enumM_len' xs (k + 1)]
/-! ### dicts by their keys -/
def mapV (ks : List Int) (f : Int → MV) : List (MK × MV) := ks.map fun p => (.inl p, f p)
theorem getK_mapV (f : Int → MV) : ∀ (ks : List Int) (p : Int), getK (mapV ks f) (.inl p) = if p ∈ ks then some (f p) else none
  | [], p => by simp [mapV, getK_nil]
  | x :: ks, p => by
    have ih := getK_mapV f ks p
    unfold mapV at ih ⊢
    rw [List.map_cons, getK_cons, ih]
    by_cases q : x = p
    · subst q; simp
    · have : ¬ p = x := fun z => q z.symm
      rw [if_neg (fun z => q (Sum.inl.inj z))]
      simp [this]
theorem any_mapV {f : Int → MV} {ks : List Int} {p : Int} (hp : p ∉ ks) : ((mapV ks f).any fun kv => decide (kv.1 = .inl p)) = false := by
  rw [List.any_eq_false]
  intro kv hk
  obtain ⟨x, hx, rfl⟩ := List.mem_map.mp hk
  have : x ≠ p := fun z => hp (by rw [← z]; exact hx)
  simpa using this
theorem putM_mapV {f : Int → MV} {ks : List Int} {p : Int} {v : MV} (hp : p ∉ ks) : putM (mapV ks f) (.inl p) v = mapV ks f ++ [(.inl p, v)] := by
  unfold putM
  rw [any_mapV hp]
  rfl
theorem putM_snoc {f : Int → MV} {ks : List Int} {p : Int} {v v2 : MV} (hp : p ∉ ks) : putM (mapV ks f ++ [(.inl p, v)]) (.inl p) v2 = mapV ks f ++ [(.inl p, v2)] := by
  unfold putM
  rw [List.any_append, any_mapV hp]
  simp only [List.any_cons, List.any_nil, decide_true, Bool.true_or, Bool.false_or, if_true, Bool.or_false]
  rw [List.map_append]
  congr 1
  · apply List.ext_getElem?
    intro j
    rw [List.getElem?_map]
    cases e : (mapV ks f)[j]? with
    | none => rfl
    | some kv =>
      obtain ⟨x, hx, rfl⟩ := List.mem_map.mp (List.mem_of_getElem? e)
      have : ¬ (Sum.inl x : MK) = Sum.inl p := fun z => hp (by rw [← Sum.inl.inj z]; exact hx)
      simp [this]
  · simp
theorem mapV_snoc (f : Int → MV) (ks : List Int) (p : Int) : mapV (ks ++ [p]) f = mapV ks f ++ [(.inl p, f p)] := by simp [mapV]
theorem ix_mapV {h : MH} {ks : List Int} {f : Int → MV} {p : Int} (hp : p ∈ ks) : opIx h (.dK (mapV ks f)) (.int p) = some (f p) := by
  simp only [opIx, seqOf, listOf, lookM, dictK, keyOf, getK_mapV, if_pos hp]
theorem put_mapV {h : MH} {m : Nat} {ks : List Int} {f : Int → MV} {p : Int} {v : MV} (e : h[m]? = some (.dK (mapV ks f))) (hp : p ∉ ks) (hz : ks.length < szLine) : stM h (.ref m) (.int p) v = some (h.set m (.dK (mapV ks f ++ [(.inl p, v)]))) := by
  have hz' : (mapV ks f).length < szLine := by simpa [mapV] using hz
  simp only [stM, e, keyOf, hz', if_true, putM_mapV hp]
theorem put_snoc {h : MH} {m : Nat} {ks : List Int} {f : Int → MV} {p : Int} {v v2 : MV} (e : h[m]? = some (.dK (mapV ks f ++ [(.inl p, v)]))) (hp : p ∉ ks) (hz : ks.length + 1 < szLine) : stM h (.ref m) (.int p) v2 = some (h.set m (.dK (mapV ks f ++ [(.inl p, v2)]))) := by
  have hz' : (mapV ks f ++ [((.inl p : MK), v)]).length < szLine := by simpa [mapV] using hz
  simp only [stM, e, keyOf, hz', if_true, putM_snoc hp]
theorem plain_mapV {f : Int → MV} (hf : ∀ p, plainV (f p) = true) : ∀ ks : List Int, plainK (mapV ks f) = true
  | [] => rfl
  | p :: ks => by simp only [mapV, List.map_cons, plainK, hf, Bool.true_and]; exact plain_mapV hf ks
/-! ### lists of ints -/
theorem sorted_eq : ∀ {a b : List Int}, a.Perm b → a.Pairwise (· ≤ ·) → b.Pairwise (· ≤ ·) → a = b
  | [], b, h, _, _ => by rw [List.nil_perm.mp h]
  | x :: a, [], h, _, _ => by have := List.perm_nil.mp h; cases this
  | x :: a, y :: b, h, ha, hb => by
    obtain ⟨ha1, ha2⟩ := List.pairwise_cons.mp ha
    obtain ⟨hb1, hb2⟩ := List.pairwise_cons.mp hb
    have e : x = y := by
      have m1 : x ∈ y :: b := h.mem_iff.mp List.mem_cons_self
      have m2 : y ∈ x :: a := h.mem_iff.mpr List.mem_cons_self
      rcases List.mem_cons.mp m1 with q | q
      · exact q
      · rcases List.mem_cons.mp m2 with q2 | q2
        · exact q2.symm
        · have := hb1 x q; have := ha1 y q2; omega
    subst e
    rw [sorted_eq (List.Perm.cons_inv h) ha2 hb2]
theorem sortI_eq {a b : List Int} (h : a.Perm b) : sortI a = sortI b := sorted_eq ((sortI_perm a).trans (h.trans (sortI_perm b).symm)) (sortI_sorted a) (sortI_sorted b)
theorem onceI_mem : ∀ (ns : List Int) (k : Int), k ∈ onceI ns ↔ k ∈ ns
  | [], k => by simp [onceI]
  | x :: xs, k => by
    have ih := onceI_mem xs k
    simp only [onceI]
    split
    · rename_i h
      rw [ih, List.mem_cons]
      exact ⟨.inr, fun z => z.elim (fun q => by rw [q]; exact h) id⟩
    · rw [List.mem_cons, List.mem_cons, ih]
theorem onceI_nodup : ∀ (ns : List Int), (onceI ns).Nodup
  | [] => List.nodup_nil
  | x :: xs => by
    simp only [onceI]
    split
    · exact onceI_nodup xs
    · rename_i h
      exact List.nodup_cons.mpr ⟨fun z => h ((onceI_mem xs x).mp z), onceI_nodup xs⟩
theorem onceI_self : ∀ {ns : List Int}, ns.Nodup → onceI ns = ns
  | [], _ => rfl
  | x :: xs, nd => by
    obtain ⟨h1, h2⟩ := List.nodup_cons.mp nd
    simp only [onceI, if_neg h1, onceI_self h2]
theorem rising_iff (r : List Int) : r = sortI (onceI r) ↔ r.Pairwise (· < ·) := by
  constructor
  · intro e
    have s := sortI_sorted (onceI r)
    have nd : (sortI (onceI r)).Nodup := (sortI_perm _).nodup_iff.mpr (onceI_nodup r)
    rw [← e] at s nd
    exact (s.and nd).imp fun ⟨h1, h2⟩ => by omega
  · intro h
    have nd : r.Nodup := h.imp fun z => by omega
    rw [onceI_self nd]
    exact sorted_eq (sortI_perm r).symm (h.imp fun z => by omega) (sortI_sorted r)
theorem sub_len : ∀ {l k : List Int}, l.Nodup → (∀ x ∈ l, x ∈ k) → l.length ≤ k.length
  | [], k, _, _ => by simp
  | x :: l, k, nd, h => by
    obtain ⟨h1, h2⟩ := List.nodup_cons.mp nd
    have hx := h x List.mem_cons_self
    have := sub_len (k := k.erase x) h2 (fun y hy => (List.mem_erase_of_ne (fun z => h1 (by rw [← z]; exact hy))).mpr (h y (List.mem_cons_of_mem _ hy)))
    rw [List.length_erase_of_mem hx] at this
    have := List.length_pos_of_mem hx
    simp only [List.length_cons]
    omega
theorem all_perm {l k : List Int} (nl : l.Nodup) (nk : k.Nodup) (h : ∀ x ∈ l, x ∈ k) (e : l.length = k.length) : l.Perm k := by
  refine (List.perm_ext_iff_of_nodup nl nk).mpr fun x => ⟨h x, fun hx => ?_⟩
  by_cases q : x ∈ l
  · exact q
  · have := sub_len (l := x :: l) (k := k) (List.nodup_cons.mpr ⟨q, nl⟩) (fun y hy => by
      rcases List.mem_cons.mp hy with z | z
      · rw [z]; exact hx
      · exact h y z)
    simp only [List.length_cons] at this
    omega
theorem all_iff {l k : List Int} (nk : k.Nodup) (h : ∀ x ∈ l, x ∈ k) : sortI l = sortI k ↔ l.Nodup ∧ l.length = k.length := by
  constructor
  · intro e
    have hp : l.Perm k := (sortI_perm l).symm.trans (by rw [e]; exact sortI_perm k)
    exact ⟨hp.nodup_iff.mpr nk, hp.length_eq⟩
  · rintro ⟨nl, e⟩
    exact sortI_eq (all_perm nl nk h e)
theorem sum_bd {f : Int → Int} {B : Nat} (hf : ∀ p, 0 ≤ f p ∧ f p ≤ B) : ∀ l : List Int, 0 ≤ (l.map f).sum ∧ (l.map f).sum ≤ (l.length * B : Nat)
  | [] => by simp
  | x :: l => by
    have ih := sum_bd hf l
    have := hf x
    simp only [List.map_cons, List.sum_cons, List.length_cons]
    have e : (l.length + 1) * B = l.length * B + B := by rw [Nat.add_mul, Nat.one_mul]
    rw [e]
    omega
/-! ### dicts of int keys, any values -/
def dictI (D : List (Int × MV)) : List (MK × MV) := D.map fun p => (.inl p.1, p.2)
theorem websI (W : WL) : websV W = dictI (W.map fun p => (p.1, .row (p.2.map .int))) := by simp [websV, dictI, Function.comp_def]
theorem mapVI (ks : List Int) (f : Int → MV) : mapV ks f = dictI (ks.map fun p => (p, f p)) := by simp [mapV, dictI, Function.comp_def]
theorem getK_dictI : ∀ {D : List (Int × MV)} {p : Int} {v : MV}, (D.map (·.1)).Nodup → (p, v) ∈ D → getK (dictI D) (.inl p) = some v
  | (q, u) :: D, p, v, nd, h => by
    obtain ⟨n1, n2⟩ := List.nodup_cons.mp nd
    unfold dictI
    rw [List.map_cons, getK_cons]
    rcases List.mem_cons.mp h with z | z
    · cases z; rw [if_pos rfl]
    · have : q ≠ p := fun w => n1 (by rw [w]; exact List.mem_map.mpr ⟨(p, v), z, rfl⟩)
      rw [if_neg (fun w => this (Sum.inl.inj w))]
      exact getK_dictI n2 z
theorem ix_dictI {h : MH} {D : List (Int × MV)} {p : Int} {v : MV} (nd : (D.map (·.1)).Nodup) (hp : (p, v) ∈ D) : opIx h (.dK (dictI D)) (.int p) = some v := by
  simp only [opIx, seqOf, listOf, lookM, dictK, keyOf, getK_dictI nd hp]
theorem put_dictI {h : MH} {m : Nat} {D : List (Int × MV)} {p : Int} {v : MV} (e : h[m]? = some (.dK (dictI D))) (hp : p ∉ D.map (·.1)) (hz : D.length < szLine) : stM h (.ref m) (.int p) v = some (h.set m (.dK (dictI (D ++ [(p, v)])))) := by
  have hz' : (dictI D).length < szLine := by simpa [dictI] using hz
  have e2 : putM (dictI D) (.inl p) v = dictI (D ++ [(p, v)]) := by
    unfold putM
    have : ((dictI D).any fun kv => decide (kv.1 = .inl p)) = false := by
      rw [List.any_eq_false]
      intro kv hk
      obtain ⟨x, hx, rfl⟩ := List.mem_map.mp hk
      have : x.1 ≠ p := fun z => hp (List.mem_map.mpr ⟨x, hx, z⟩)
      simpa using this
    rw [this]
    simp [dictI]
  simp only [stM, e, keyOf, hz', if_true, e2]
theorem keysV_dictI (D : List (Int × MV)) : (dictI D).map (fun kv => keyV kv.1) = (D.map (·.1)).map .int := by simp [dictI, keyV, Function.comp_def]
theorem plain_dictI : ∀ {D : List (Int × MV)}, (∀ p ∈ D, plainV p.2 = true) → plainK (dictI D) = true
  | [], _ => rfl
  | p :: D, h => by
    have := plain_dictI (D := D) fun q hq => h q (List.mem_cons_of_mem _ hq)
    unfold dictI at this ⊢
    simp only [List.map_cons, plainK, h p List.mem_cons_self, this, Bool.and_self]
theorem merge_mapV (f : Int → MV) : ∀ (ks A : List Int), ks.Nodup → (∀ p ∈ ks, p ∉ A) → mergeM (mapV A f) (mapV ks f) = mapV (A ++ ks) f
  | [], A, _, _ => by simp [mapV, mergeM]
  | p :: ks, A, nd, h => by
    obtain ⟨n1, n2⟩ := List.nodup_cons.mp nd
    have e : mergeM (mapV A f) (mapV (p :: ks) f) = mergeM (putM (mapV A f) (.inl p) (f p)) (mapV ks f) := rfl
    rw [e, putM_mapV (h p List.mem_cons_self), ← mapV_snoc, merge_mapV f ks (A ++ [p]) n2 (fun q hq hm => by
      rcases List.mem_append.mp hm with z | z
      · exact h q (List.mem_cons_of_mem _ hq) z
      · exact n1 (by rw [← List.mem_singleton.mp z]; exact hq))]
    simp
theorem pairs_mapV (f : Int → MV) : ∀ ks : List Int, pairsK (ks.map fun p => .tup [.int p, f p]) = some (mapV ks f)
  | [] => rfl
  | p :: ks => by
    rw [List.map_cons, pairsK]
    simp only [keyOf, pairs_mapV f ks]
    rfl
theorem eq_mapI (h : MH) (ks : List Int) (f : Int → Int) : opEq h (.dK (mapV ks fun p => .int (f p))) (.dK (mapV ks fun p => .int (f p))) = some (.bl true) := by
  have d1 : dataKs (mapV ks fun p => .int (f p)) = true := by
    unfold dataKs
    rw [List.all_eq_true]
    intro kv hk
    obtain ⟨x, hx, rfl⟩ := List.mem_map.mp hk
    rfl
  have d2 : eqKs (mapV ks fun p => .int (f p)) (mapV ks fun p => .int (f p)) = true := by
    unfold eqKs
    rw [beq_self_eq_true, Bool.true_and, List.all_eq_true]
    intro kv hk
    obtain ⟨x, hx, rfl⟩ := List.mem_map.mp hk
    simp only [getK_mapV, if_pos hx, eqD, beq_self_eq_true]
  simp only [opEq, dictK, d1, d2, Bool.and_self, if_true]
end Ew
end

section
set_option linter.all false
set_option maxRecDepth 100000
/-! EwX: steps through the machine's bodies. -/
namespace Ew
open PySem (Str)
theorem seq_s {a b : XS} {s s1 : SM} {h h1 : MH} {r : Option (Fl × SM × MH)} (e : a s h = some (.nx, s1, h1)) (k : b s1 h1 = r) : sSeq a b s h = r := (seq_nx e).trans k
theorem seq_e {a b : XS} {s s1 : SM} {h h1 : MH} {p : Fl → SM → MH → Prop} (e : a s h = some (.nx, s1, h1)) (k : ∃ f s' h', b s1 h1 = some (f, s', h') ∧ p f s' h') : ∃ f s' h', sSeq a b s h = some (f, s', h') ∧ p f s' h' := by
  obtain ⟨f, s', h', k1, k2⟩ := k
  exact ⟨f, s', h', (seq_nx e).trans k1, k2⟩
theorem run_e {n : Nat} {b : XS} {vs : List MV} {h : MH} {v : MV} (k : ∃ f s' h', b (sBegin n vs) h = some (f, s', h') ∧ f = .rt v) : ∃ h', runDef n b vs h = some (v, h') := by
  obtain ⟨f, s', h', k1, rfl⟩ := k
  exact ⟨h', run_rt k1⟩
theorem for_s {it : XI} {g : XG} {b : XS} {s : SM} {h h1 : MH} {xs : List MV} {r : Option (Fl × SM × MH)} (e : it s h = some (.vals xs, h1)) (k : forGo g b xs s h1 = r) : sFor it g b s h = r := (for_at e).trans k
/-! ### sorted by a lambda -/
theorem keyGo_ints {js : List Nat} {b : XE} {s : SM} {h : MH} (K : Int → Int) : ∀ (xs : List Int), (∀ x ∈ xs, b (some (.int x) :: js.map fun j => (s[j]?).join) h = some (.int (K x), h)) → keyGo js b s (xs.map .int) h = some (xs.map K, h)
  | [], _ => rfl
  | x :: xs, hb => by
    have e1 := hb x List.mem_cons_self
    have e2 := keyGo_ints K xs fun y hy => hb y (List.mem_cons_of_mem _ hy)
    simp only [List.map_cons, keyGo, e1, e2]
def unI : MV → Int
  | .int i => i
  | _ => 0
theorem ints_perm {l : List MV} {xs : List Int} (p : l.Perm (xs.map .int)) : ∃ ys : List Int, ys.Perm xs ∧ l = ys.map .int := by
  refine ⟨l.map unI, ?_, ?_⟩
  · have := p.map unI
    rwa [List.map_map, show unI ∘ MV.int = id from rfl, List.map_id] at this
  · rw [List.map_map]
    symm
    rw [List.map_congr_left (g := id), List.map_id]
    intro x hx
    obtain ⟨i, _, rfl⟩ := List.mem_map.mp (p.mem_iff.mp hx)
    rfl
theorem sortK_at {n : Nat} {js : List Nat} {b e : XE} {s : SM} {h h1 : MH} {xs : List Int} (K : Int → Int) (e1 : e s h = some (.lst (xs.map .int), h1)) (et : h1[n]? = some (.tab n)) (hz : xs.length ≤ 1000000)
    (hb : ∀ x ∈ xs, b (some (.int x) :: js.map fun j => (s[j]?).join) h1 = some (.int (K x), h1)) : ∃ ys : List Int, ys.Perm xs ∧ xSortK n js b e s h = some (.lst (ys.map .int), h1) := by
  have kg := keyGo_ints K xs hb
  have hz' : (xs.map MV.int).length ≤ szLine := by rw [List.length_map]; unfold szLine; omega
  have pm : ((((xs.map K).zip (xs.map MV.int)).mergeSort fun p q => decide (p.1 ≤ q.1)).map (·.2)).Perm (xs.map MV.int) := by
    have := (List.mergeSort_perm ((xs.map K).zip (xs.map MV.int)) (fun p q => decide (p.1 ≤ q.1))).map (·.2)
    rwa [List.map_snd_zip (by simp)] at this
  obtain ⟨ys, hp, ey⟩ := ints_perm pm
  refine ⟨ys, hp, ?_⟩
  unfold xSortK
  simp only [e1, et, if_true, listOf, hz', kg, ey]
/-! ### pairs of ints -/
theorem lexLe_anti' {p q : Int × Int} (h1 : lexLe p q = true) (h2 : lexLe q p = true) : p = q := by
  unfold lexLe at h1 h2
  simp only [Bool.or_eq_true, Bool.and_eq_true, decide_eq_true_eq] at h1 h2
  exact Prod.ext (by omega) (by omega)
theorem sortP_eq : ∀ {a b : List (Int × Int)}, a.Perm b → a.Pairwise (fun x y => lexLe x y = true) → b.Pairwise (fun x y => lexLe x y = true) → a = b
  | [], b, h, _, _ => by rw [List.nil_perm.mp h]
  | x :: a, [], h, _, _ => by have := List.perm_nil.mp h; cases this
  | x :: a, y :: b, h, ha, hb => by
    obtain ⟨ha1, ha2⟩ := List.pairwise_cons.mp ha
    obtain ⟨hb1, hb2⟩ := List.pairwise_cons.mp hb
    have e : x = y := by
      have m1 : x ∈ y :: b := h.mem_iff.mp List.mem_cons_self
      have m2 : y ∈ x :: a := h.mem_iff.mpr List.mem_cons_self
      rcases List.mem_cons.mp m1 with q | q
      · exact q
      · rcases List.mem_cons.mp m2 with q2 | q2
        · exact q2.symm
        · exact lexLe_anti' (ha1 y q2) (hb1 x q)
    subst e
    rw [sortP_eq (List.Perm.cons_inv h) ha2 hb2]
theorem srtP_perm (ps : List (Int × Int)) : (sortP ps).Perm ps := List.mergeSort_perm _ _
theorem srtP_sorted (ps : List (Int × Int)) : (sortP ps).Pairwise fun x y => lexLe x y = true := by
  unfold sortP
  refine List.pairwise_mergeSort (fun a b c h1 h2 => ?_) (fun a b => ?_) ps
  · unfold lexLe at h1 h2 ⊢
    simp only [Bool.or_eq_true, Bool.and_eq_true, decide_eq_true_eq] at h1 h2 ⊢
    omega
  · unfold lexLe
    simp only [Bool.or_eq_true, Bool.and_eq_true, decide_eq_true_eq]
    omega
theorem plain_pairs : ∀ L : List (Int × Int), plainL (L.map pairV) = true
  | [] => rfl
  | p :: L => by
    have := plain_pairs L
    simp only [List.map_cons, plainL, plainV, pairV, Bool.and_true, Bool.true_and] at this ⊢
    exact this
theorem isDs_pairs (n : Nat) : ∀ L : List (Int × Int), isDs (n + 1) (L.map pairV) = true
  | [] => rfl
  | p :: L => by
    have := isDs_pairs n L
    simp only [List.map_cons, isDs, this, pairV, isD, Bool.and_self]
theorem eqD_pair (p q : Int × Int) : eqD (pairV p) (pairV q) = decide (p = q) := by
  simp only [pairV, eqD, eqDs, Bool.and_true]
  rw [Bool.eq_iff_iff]
  simp only [Bool.and_eq_true, beq_iff_eq, decide_eq_true_eq, Prod.ext_iff]
theorem eqDs_pairs : ∀ L M : List (Int × Int), eqDs (L.map pairV) (M.map pairV) = decide (L = M)
  | [], [] => rfl
  | [], _ :: _ => by simp [eqDs]
  | _ :: _, [] => by simp [eqDs]
  | p :: L, q :: M => by
    simp only [List.map_cons, eqDs, eqD_pair, eqDs_pairs L M]
    rw [Bool.eq_iff_iff]
    simp only [Bool.and_eq_true, decide_eq_true_eq, List.cons.injEq]
theorem ne_pairs {h : MH} (L M : List (Int × Int)) : opNe h (.lst (L.map pairV)) (.lst (M.map pairV)) = some (.bl (!decide (L = M))) := by
  simp only [opNe, dictK, opNe0, rdM, eqM, isD, isDs_pairs, Bool.and_self, if_true, eqD, eqDs_pairs, Option.map_some]
theorem ne_pair {h : MH} (p q : Int × Int) : opNe h (pairV p) (pairV q) = some (.bl (!decide (p = q))) := by
  have e1 : isD 60 (pairV p) = true := rfl
  have e2 : isD 60 (pairV q) = true := rfl
  show (eqM (pairV p) (pairV q)).map (fun k => MV.bl (!k)) = _
  simp only [eqM, e1, e2, Bool.and_self, if_true, eqD_pair, Option.map_some]
theorem pairsI_map : ∀ L : List (Int × Int), pairsI (L.map pairV) = some L
  | [] => rfl
  | p :: L => by
    have := pairsI_map L
    simp only [List.map_cons, pairV] at this ⊢
    simp only [pairsI, this, Option.map_some]
theorem sorted_pairs (h : MH) (L : List (Int × Int)) : fSorted h [.lst (L.map pairV)] = some (.lst ((sortP L).map pairV)) := by
  cases L with
  | nil => simp [fSorted, seqOf, listOf, intsOf, sortI, sortP]
  | cons p L =>
    have e1 : intsOf ((p :: L).map pairV) = none := by simp only [List.map_cons, pairV, intsOf]
    simp only [fSorted, seqOf, listOf, e1, pairsI_map, Option.map_some]
/-! ### rows' slices -/
theorem slT_at {e : XE} {lo hi : XO} {s : SM} {h h1 h2 h3 : MH} {x : MV} {xs : List MV} {l u : Option Int} (e1 : e s h = some (x, h1)) (e2 : lo s h1 = some (l, h2)) (e3 : hi s h2 = some (u, h3)) (ex : tupV x = some xs) : ∃ v, xSlT e lo hi s h = some (v, h3) ∧ tupV v = some (cutM xs l u) := by
  unfold xSlT
  simp only [e1, e2, e3]
  cases x <;> simp only [tupV, reduceCtorEq, Option.some.injEq] at ex
  all_goals subst ex
  · rename_i xs
    by_cases q : sIxM xs.length 0 l = 0 ∧ sIxM xs.length xs.length u = xs.length
    · simp only [if_pos q]
      refine ⟨_, rfl, ?_⟩
      unfold cutM
      rw [q.1, q.2]
      simp [tupV]
    · simp only [if_neg q]
      exact ⟨_, rfl, rfl⟩
  · exact ⟨_, rfl, rfl⟩
/-- a slice of a row is a row -/
theorem slR_at {e : XE} {lo hi : XO} {s : SM} {h h1 h2 h3 : MH} {xs : List MV} {l u : Option Int} (e1 : e s h = some (.row xs, h1)) (e2 : lo s h1 = some (l, h2)) (e3 : hi s h2 = some (u, h3)) : xSlT e lo hi s h = some (.row (cutM xs l u), h3) := by
  unfold xSlT
  simp only [e1, e2, e3]
theorem catV_at {h : MH} {x y : MV} {xs ys : List MV} (e1 : tupV x = some xs) (e2 : tupV y = some ys) (hl : xs.length + ys.length ≤ 1000000) : ∃ v, opCatT h x y = some v ∧ tupV v = some (xs ++ ys) := by
  have : xs.length + ys.length ≤ szLine := by unfold szLine; omega
  simp only [opCatT, e1, e2, this, if_true]
  refine ⟨_, rfl, ?_⟩
  cases xs with
  | nil => simpa using e2
  | cons a xs =>
    cases ys with
    | nil => simpa using e1
    | cons b ys => rfl
theorem catR_at {h : MH} {xs ys : List MV} (hl : xs.length + ys.length ≤ 1000000) : opCatT h (.row xs) (.row ys) = some (.row (xs ++ ys)) := by
  have : xs.length + ys.length ≤ szLine := by unfold szLine; omega
  simp only [opCatT, tupV, this, if_true]
  cases xs with
  | nil => rfl
  | cons a xs =>
    cases ys with
    | nil => simp
    | cons b ys => rfl
/-- for k in d.keys(), d a cell -/
theorem forK_ref {n m : Nat} {g : XG} {b : XS} {s s' : SM} {h h' : MH} {kvs kvs' : List (MK × MV)} {f : Fl} (e1 : s[n]? = some (some (.ref m))) (e2 : h[m]? = some (.dK kvs)) (e3 : forGo g b (kvs.map fun kv => keyV kv.1) s (h.set m (.lkK kvs)) = some (f, s', h')) (e4 : h'[m]? = some (.lkK kvs')) : sForK n g b s h = some (f, s', h'.set m (.dK kvs')) := by
  simp only [sForK, e1, e2, e3, e4]
theorem ixV_at {h : MH} {x : MV} {xs : List MV} {i : Int} {v : MV} (e1 : tupV x = some xs) (e2 : atM xs i = some v) : opIx h x (.int i) = some v := by
  cases x <;> simp only [tupV, reduceCtorEq, Option.some.injEq] at e1
  all_goals subst e1; simpa only [opIx, seqOf] using e2
theorem bools_of_map : ∀ bs : List Bool, boolsOf (bs.map .bl) = some bs
  | [] => rfl
  | b :: bs => by simp only [List.map_cons, boolsOf, bools_of_map bs, Option.map_some]
theorem all_true {α : Type} (h : MH) (L : List α) : fAll h [.lst (L.map fun _ => .bl true)] = some (.bl true) := by
  have e : L.map (fun _ => MV.bl true) = (L.map fun _ => true).map .bl := by rw [List.map_map]; rfl
  simp only [fAll, listOf, e, bools_of_map, Option.map_some]
  simp
/-! ### lists of rows -/
def tupsV (L : List (List Int)) : List MV := L.map fun r => .row (r.map .int)
theorem plain_tups : ∀ L : List (List Int), plainL (tupsV L) = true
  | [] => rfl
  | r :: L => by
    have := plain_tups L
    unfold tupsV at this ⊢
    simp only [List.map_cons, plainL, plainV, plain_ints, this, Bool.and_self]
theorem isDs_tups (n : Nat) : ∀ L : List (List Int), isDs (n + 1) (tupsV L) = true
  | [] => rfl
  | r :: L => by
    have := isDs_tups n L
    unfold tupsV at this ⊢
    simp only [List.map_cons, isDs, isD_rints, this, Bool.and_self]
theorem eqDs_tups : ∀ L M : List (List Int), eqDs (tupsV L) (tupsV M) = (L == M)
  | [], [] => rfl
  | [], _ :: _ => rfl
  | _ :: _, [] => rfl
  | r :: L, q :: M => by
    have := eqDs_tups L M
    unfold tupsV at this ⊢
    simp only [List.map_cons, eqDs, eqD_rints, this]
    rfl
theorem ne_tups {h : MH} {n : Nat} (L M : List (List Int)) (e : h[n]? = some (.lst (tupsV L))) : opNe h (.ref n) (.lst (tupsV M)) = some (.bl (!(L == M))) := by
  simp only [opNe, dictK, e, opNe0, rdM, eqM, isD, isDs_tups, Bool.and_self, if_true, eqD, eqDs_tups, Option.map_some]
theorem ne_tupsV {h : MH} (L M : List (List Int)) : opNe h (.lst (tupsV L)) (.lst (tupsV M)) = some (.bl (!(L == M))) := by
  simp only [opNe, dictK, opNe0, rdM, eqM, isD, isDs_tups, Bool.and_self, if_true, eqD, eqDs_tups, Option.map_some]
theorem len_flat : ∀ L : List (List Int), (∀ r ∈ L, r ≠ []) → L.length ≤ L.flatten.length
  | [], _ => by simp
  | r :: L, h => by
    have ih := len_flat L fun q hq => h q (List.mem_cons_of_mem _ hq)
    have := List.length_pos_iff.mpr (h r List.mem_cons_self)
    simp only [List.length_cons, List.flatten_cons, List.length_append]
    omega
theorem sum_lens : ∀ L : List (List Int), (L.map fun r => (r.length : Int)).sum = (L.flatten.length : Nat)
  | [] => rfl
  | r :: L => by
    have := sum_lens L
    simp only [List.map_cons, List.sum_cons, this, List.flatten_cons, List.length_append]
    omega
theorem extend_at {o e : XE} {s : SM} {h h1 h2 : MH} {n : Nat} {xs ys zs : List MV} (e1 : o s h = some (.ref n, h1)) (e2 : h1[n]? = some (.lst ys)) (e3 : e s h1 = some (.lst zs, h2)) (e4 : h2[n]? = some (.lst xs)) (hz : xs.length + zs.length ≤ szLine) :
    xExtend o e s h = some (.non, h2.set n (.lst (xs ++ zs))) := by
  have c : isLstC h1 n = true := by simp only [isLstC, e2]
  simp only [xExtend, e1, c, if_true, e3, listOf, e4, hz]
theorem notin_webs (h : MH) (W : WL) (p : Int) : opNotIn h (.int p) (.dK (websV W)) = some (.bl (!decide (p ∈ keysOf' W))) := by
  have e := in_webs h W p
  simp only [opIn, opNotIn, seqOf, listOf] at e ⊢
  cases q : lookM h (.dK (websV W)) (.int p) with
  | none => rw [q] at e; cases e
  | some o =>
    rw [q] at e
    simp only [Option.map_some, Option.some.injEq, MV.bl.injEq] at e ⊢
    rw [e]
/-- a dict made key by key: D[p] = e -/
theorem keys_loop {n k d : Nat} {e : XE} {W : WL} (nd : (keysOf' W).Nodup) (hl : W.length ≤ 100000) {H : MH} (st : Option MV → SM) (o0 : Option MV) (hset : ∀ o x, (st o).set k (some x) = st (some x)) (hk : ∀ x, (st (some x))[k]? = some (some x)) (hd : ∀ o, (st o)[d]? = some (some (.ref H.length)))
    (hn : (st o0)[n]? = some (some (.dK (websV W)))) (f : Int → List Int → MV) (he : ∀ u r c, rowOf W u = some r → e (st (some (.int u))) (H ++ [c]) = some (f u r, H ++ [c])) :
    ∃ o, sForK n (gNm k) (sPut (xVar d) (xVar k) e) (st o0) (H ++ [.dK []]) = some (.nx, st o, H ++ [.dK (dictI (W.map fun p => (p.1, f p.1 p.2)))]) := by
  obtain ⟨s', h', eg, o, rfl, rfl⟩ := forGo_run (g := gNm k) (b := sPut (xVar d) (xVar k) e)
    (fun i s h => ∃ o, s = st o ∧ h = H ++ [.dK (dictI ((W.take i).map fun p => (p.1, f p.1 p.2)))])
    ((keysOf' W).map .int) 0 (st o0) (H ++ [.dK []]) ⟨o0, rfl, rfl⟩ (by
    rintro i x s h ex ⟨o, rfl, rfl⟩
    rw [Nat.zero_add]
    rw [List.getElem?_map] at ex
    cases ev : W[i]? with
    | none =>
      have : (keysOf' W)[i]? = none := by unfold keysOf'; rw [List.getElem?_map, ev]; rfl
      rw [this] at ex; cases ex
    | some p =>
      obtain ⟨u, r⟩ := p
      have ek : (keysOf' W)[i]? = some u := by unfold keysOf'; rw [List.getElem?_map, ev]; rfl
      rw [ek] at ex; cases ex
      have eu : rowOf W u = some r := rowOf_of_mem nd (List.mem_of_getElem? ev)
      have nd2 : (keysOf' (W.take (i + 1))).Nodup := by
        have : keysOf' (W.take (i + 1)) = (keysOf' W).take (i + 1) := by unfold keysOf'; rw [List.map_take]
        rw [this]; exact nd.sublist (List.take_sublist _ _)
      have ks : keysOf' (W.take (i + 1)) = keysOf' (W.take i) ++ [u] := by rw [take_snoc ev]; simp [keysOf']
      rw [ks, List.nodup_append] at nd2
      have nk : u ∉ ((W.take i).map fun p => (p.1, f p.1 p.2)).map (·.1) := fun q => nd2.2.2 u (by rw [List.map_map] at q; exact q) u (by simp) rfl
      have pw := put_dictI (h := H ++ [.dK (dictI ((W.take i).map fun p => (p.1, f p.1 p.2)))]) (m := H.length) (v := f u r) get_last nk (by rw [List.length_map, List.length_take]; unfold szLine; omega)
      rw [set_last, show (W.take i).map (fun p => (p.1, f p.1 p.2)) ++ [(u, f u r)] = (W.take (i + 1)).map fun p => (p.1, f p.1 p.2) by rw [take_snoc ev]; simp] at pw
      have g1 : gNm k (.int u) (st o) (H ++ [.dK (dictI ((W.take i).map fun p => (p.1, f p.1 p.2)))]) = some (st (some (.int u)), H ++ [.dK (dictI ((W.take i).map fun p => (p.1, f p.1 p.2)))]) := by simp only [gNm, hset]
      exact ⟨_, _, .nx, _, _, g1, put_at (he u r _ eu) (var_at (hd _)) (var_at (hk _)) pw, .inl rfl, _, rfl, rfl⟩)
  rw [Nat.zero_add, List.length_map, keys_len, List.take_length] at eg
  have fk := forK_at (n := n) (g := gNm k) (b := sPut (xVar d) (xVar k) e) (s := st o0) (h := H ++ [.dK []]) (kvs := websV W) hn
  rw [keysV_webs] at fk
  exact ⟨o, fk.trans eg⟩
theorem webs_map (F : Int → List Int → List Int) (W : WL) : dictI (W.map fun p => (p.1, .row ((F p.1 p.2).map .int))) = websV (mapRows F W) := by
  rw [websI]
  simp [mapRows, Function.comp_def]
theorem eqV_at {h : MH} {v : MV} {xs ys : List Int} (e : tupV v = some (xs.map .int)) : opEq h v (.row (ys.map .int)) = some (.bl (xs == ys)) := by
  cases v <;> simp only [tupV, reduceCtorEq, Option.some.injEq] at e
  all_goals
    subst e
    simp only [opEq, dictK, opEq0, rdM, eqM, isD, isDs_ints, Bool.and_self, if_true, eqD, eqDs_ints, Option.map_some]
theorem ne_webs_ref {h : MH} {n : Nat} {W : WL} (nd : (keysOf' W).Nodup) (e : h[n]? = some (.dK (websV W))) : opNe h (.dK (websV W)) (.ref n) = some (.bl false) := by
  simp only [opNe, dictK, e, isDs_webs, Bool.and_self, if_true, eqKs_webs nd, Bool.not_true]
theorem sorted_ref {h : MH} {n : Nat} {xs : List Int} (e : h[n]? = some (.lst (xs.map .int))) : fSorted h [.ref n] = some (.lst ((sortI xs).map .int)) := by
  simp only [fSorted, seqOf, listOf, e, ints_of_map]
/-! ### walks over a cell's list that stays as it is -/
theorem forCell_mono {g : XG} {b : XS} {n : Nat} : ∀ (m i : Nat) (s : SM) (h : MH) (r : Fl × SM × MH), forCell g b n m i s h = some r → forCell g b n (m + 1) i s h = some r := by
  intro m
  induction m with
  | zero => intro i s h r q; cases q
  | succ m ih =>
    intro i s h r q
    unfold forCell at q ⊢
    cases e1 : h[n]? with
    | none => rw [e1] at q; cases q
    | some cl =>
      rw [e1] at q
      cases cl <;> simp only at q ⊢ <;> try (cases q; done)
      rename_i xs
      cases e2 : xs[i]? with
      | none => rw [e2] at q; exact q
      | some x =>
        rw [e2] at q
        simp only at q ⊢
        cases e3 : g x s h with
        | none => rw [e3] at q; cases q
        | some p =>
          obtain ⟨s1, h1⟩ := p
          rw [e3] at q
          simp only at q ⊢
          cases e4 : b s1 h1 with
          | none => rw [e4] at q; cases q
          | some p2 =>
            obtain ⟨f, s2, h2⟩ := p2
            rw [e4] at q
            cases f with
            | nx => exact ih _ _ _ _ q
            | ct => exact ih _ _ _ _ q
            | bk => exact q
            | rt v => exact q
theorem forCell_run {g : XG} {b : XS} {n : Nat} {xs : List MV} (I : Nat → SM → MH → Prop) (hc : ∀ i s h, I i s h → h[n]? = some (.lst xs))
    (step : ∀ i x s h, xs[i]? = some x → I i s h → ∃ s1 h1 f s2 h2, g x s h = some (s1, h1) ∧ b s1 h1 = some (f, s2, h2) ∧ (f = .nx ∨ f = .ct) ∧ I (i + 1) s2 h2) : ∀ (k i : Nat) (s : SM) (h : MH), xs.length - i = k → i ≤ xs.length → I i s h → ∃ s' h', forCell g b n (k + 1) i s h = some (.nx, s', h') ∧ I xs.length s' h' := by
  intro k
  induction k with
  | zero =>
    intro i s h hk hi hI
    have : i = xs.length := by omega
    subst this
    refine ⟨s, h, ?_, hI⟩
    unfold forCell
    simp only [hc _ _ _ hI, List.getElem?_eq_none (Nat.le_refl _)]
  | succ k ih =>
    intro i s h hk hi hI
    have hlt : i < xs.length := by omega
    obtain ⟨s1, h1, f, s2, h2, e1, e2, hf, hI2⟩ := step i xs[i] s h (List.getElem?_eq_getElem hlt) hI
    obtain ⟨s', h', e3, hI3⟩ := ih (i + 1) s2 h2 (by omega) (by omega) hI2
    refine ⟨s', h', ?_, hI3⟩
    unfold forCell
    simp only [hc _ _ _ hI, List.getElem?_eq_getElem hlt, e1]
    rcases hf with rfl | rfl <;> simp only [e2, e3]
theorem forC_at {it : XI} {g : XG} {b : XS} {n : Nat} {xs : List MV} {s : SM} {h h1 : MH} (I : Nat → SM → MH → Prop) (e1 : it s h = some (.cell n, h1)) (hc : ∀ i s h, I i s h → h[n]? = some (.lst xs)) (h0 : I 0 s h1)
    (step : ∀ i x s h, xs[i]? = some x → I i s h → ∃ s1 h1 f s2 h2, g x s h = some (s1, h1) ∧ b s1 h1 = some (f, s2, h2) ∧ (f = .nx ∨ f = .ct) ∧ I (i + 1) s2 h2) : ∃ s' h', sFor it g b s h = some (.nx, s', h') ∧ I xs.length s' h' := by
  obtain ⟨s', h', q, hI⟩ := forCell_run (g := g) (b := b) I hc step xs.length 0 s h1 (by omega) (by omega) h0
  refine ⟨s', h', ?_, hI⟩
  have q2 : fuel (fun t => forCell g b n t 0 s h1) = some (.nx, s', h') := fuel_of (n := xs.length + 1) (fun m r z => forCell_mono m 0 _ _ r z) q
  simp only [sFor, e1, q2]
theorem iSeq_cell {e : XE} {s : SM} {h h1 : MH} {n : Nat} {xs : List MV} (e1 : e s h = some (.ref n, h1)) (e2 : h1[n]? = some (.lst xs)) : iSeq e s h = some (.cell n, h1) := by simp only [iSeq, e1, e2]
theorem pop_at {o : XE} {s : SM} {h h1 : MH} {n : Nat} {xs : List MV} {v : MV} (e1 : o s h = some (.ref n, h1)) (e2 : h1[n]? = some (.lst (xs ++ [v]))) : xPop o s h = some (v, h1.set n (.lst xs)) := by
  have e3 : (xs ++ [v])[(xs ++ [v]).length - 1]? = some v := by simp
  simp only [xPop, e1, e2, e3, List.dropLast_concat]
def rowsAt (W : WL) (u : Int) : List Int := (rowOf W u).getD []
theorem rowsAt_of {W : WL} {u : Int} {r : List Int} (e : rowOf W u = some r) : rowsAt W u = r := by unfold rowsAt; rw [e]; rfl
theorem or_t {a b : XT} {s : SM} {h h1 : MH} (e : a s h = some (true, h1)) : xOrT a b s h = some (true, h1) := by simp only [xOrT, e]
theorem not_t {a : XT} {s : SM} {h h1 : MH} {k : Bool} (e : a s h = some (k, h1)) : xNotT a s h = some (!k, h1) := by simp only [xNotT, e]
theorem or_f {a b : XT} {s : SM} {h h1 : MH} {r : Option (Bool × MH)} (e : a s h = some (false, h1)) (k : b s h1 = r) : xOrT a b s h = r := by simp only [xOrT, e, k]
theorem andT_t {a b : XT} {s : SM} {h h1 : MH} {r : Option (Bool × MH)} (e : a s h = some (true, h1)) (k : b s h1 = r) : xAndT a b s h = r := by simp only [xAndT, e, k]
theorem andT_f {a b : XT} {s : SM} {h h1 : MH} (e : a s h = some (false, h1)) : xAndT a b s h = some (false, h1) := by simp only [xAndT, e]
theorem rng_cons (lo : Int) (n : Nat) : rngM lo (n + 1) = .int lo :: rngM (lo + 1) n := by
  unfold rngM
  rw [List.range_succ_eq_map, List.map_cons, List.map_map]
  congr 1
  · simp
  · refine List.map_congr_left fun i _ => ?_
    simp only [Function.comp_apply, MV.int.injEq]
    omega
end Ew
end

section
set_option linter.all false
set_option maxRecDepth 100000
/-! EwZ: what a run ends with, by rules of one step each. -/
namespace Ew
open PySem (Str)
def Wp (o : Option (Fl × SM × MH)) (Q : Fl → SM → MH → Prop) : Prop := ∃ f s h, o = some (f, s, h) ∧ Q f s h
def We (o : Option (MV × MH)) (Q : MV → MH → Prop) : Prop := ∃ v h, o = some (v, h) ∧ Q v h
def Wt (o : Option (Bool × MH)) (Q : Bool → MH → Prop) : Prop := ∃ v h, o = some (v, h) ∧ Q v h
def Wa (o : Option (List MV × MH)) (Q : List MV → MH → Prop) : Prop := ∃ v h, o = some (v, h) ∧ Q v h
def Wv (o : Option MV) (Q : MV → Prop) : Prop := ∃ v, o = some v ∧ Q v
def Wm (o : Option MH) (Q : MH → Prop) : Prop := ∃ v, o = some v ∧ Q v
def Wg (o : Option (SM × MH)) (Q : SM → MH → Prop) : Prop := ∃ s h, o = some (s, h) ∧ Q s h
def Wi (o : Option (MI × MH)) (Q : MI → MH → Prop) : Prop := ∃ v h, o = some (v, h) ∧ Q v h
def Wo (o : Option (Option Int × MH)) (Q : Option Int → MH → Prop) : Prop := ∃ v h, o = some (v, h) ∧ Q v h
theorem wp_of {o : Option (Fl × SM × MH)} {f : Fl} {s : SM} {h : MH} {Q : Fl → SM → MH → Prop} (e : o = some (f, s, h)) (q : Q f s h) : Wp o Q := ⟨_, _, _, e, q⟩
theorem we_of {o : Option (MV × MH)} {v : MV} {h : MH} {Q : MV → MH → Prop} (e : o = some (v, h)) (q : Q v h) : We o Q := ⟨_, _, e, q⟩
theorem wt_of {o : Option (Bool × MH)} {v : Bool} {h : MH} {Q : Bool → MH → Prop} (e : o = some (v, h)) (q : Q v h) : Wt o Q := ⟨_, _, e, q⟩
theorem wa_of {o : Option (List MV × MH)} {v : List MV} {h : MH} {Q : List MV → MH → Prop} (e : o = some (v, h)) (q : Q v h) : Wa o Q := ⟨_, _, e, q⟩
theorem wv_of {o : Option MV} {v : MV} {Q : MV → Prop} (e : o = some v) (q : Q v) : Wv o Q := ⟨_, e, q⟩
theorem wm_of {o : Option MH} {v : MH} {Q : MH → Prop} (e : o = some v) (q : Q v) : Wm o Q := ⟨_, e, q⟩
theorem wg_of {o : Option (SM × MH)} {v : SM} {h : MH} {Q : SM → MH → Prop} (e : o = some (v, h)) (q : Q v h) : Wg o Q := ⟨_, _, e, q⟩
theorem wi_of {o : Option (MI × MH)} {v : MI} {h : MH} {Q : MI → MH → Prop} (e : o = some (v, h)) (q : Q v h) : Wi o Q := ⟨_, _, e, q⟩
theorem wp_mono {o : Option (Fl × SM × MH)} {P Q : Fl → SM → MH → Prop} (w : Wp o P) (k : ∀ f s h, P f s h → Q f s h) : Wp o Q := by
  obtain ⟨f, s, h, e, p⟩ := w; exact ⟨f, s, h, e, k _ _ _ p⟩
theorem we_mono {o : Option (MV × MH)} {P Q : MV → MH → Prop} (w : We o P) (k : ∀ v h, P v h → Q v h) : We o Q := by
  obtain ⟨f, h, e, p⟩ := w; exact ⟨f, h, e, k _ _ p⟩
theorem we_eq {o : Option (MV × MH)} {v : MV} {h : MH} (w : We o fun v' h' => v' = v ∧ h' = h) : o = some (v, h) := by
  obtain ⟨f, s, e, rfl, rfl⟩ := w; exact e
theorem wp_eq {o : Option (Fl × SM × MH)} {f : Fl} {s : SM} {h : MH} (w : Wp o fun f' s' h' => f' = f ∧ s' = s ∧ h' = h) : o = some (f, s, h) := by
  obtain ⟨_, _, _, e, rfl, rfl, rfl⟩ := w; exact e
/-! ### branches -/
def kB (k : Bool) (A B : Prop) : Prop := if k = true then A else B
theorem kB_t {A B : Prop} (a : A) : kB true A B := by unfold kB; rw [if_pos rfl]; exact a
theorem kB_f {A B : Prop} (b : B) : kB false A B := by unfold kB; rw [if_neg Bool.noConfusion]; exact b
theorem br_t {k : Bool} {A B : Prop} (e : k = true) (a : A) : kB k A B := by subst e; exact kB_t a
theorem br_f {k : Bool} {A B : Prop} (e : k = false) (b : B) : kB k A B := by subst e; exact kB_f b
theorem br_by {k : Bool} {A B : Prop} (a : k = true → A) (b : k = false → B) : kB k A B := by cases k; exact kB_f (b rfl); exact kB_t (a rfl)
theorem br_dec {p : Prop} [Decidable p] {A B : Prop} (a : p → A) (b : ¬ p → B) : kB (decide p) A B := br_by (fun e => a (of_decide_eq_true e)) fun e => b (of_decide_eq_false e)
/-- a truth as a value -/
def kV (v : MV) (R : Bool → Prop) : Prop := ∃ k, v = .bl k ∧ R k
theorem kV_bl {k : Bool} {R : Bool → Prop} (r : R k) : kV (.bl k) R := ⟨k, rfl, r⟩
theorem kB_nt {A B : Prop} (b : B) : kB (!true) A B := kB_f b
theorem kB_nf {A B : Prop} (a : A) : kB (!false) A B := kB_t a
theorem kB_tt {A B : Prop} (a : A) : kB (decide (true = true)) A B := kB_t a
theorem kB_ff {A B : Prop} (a : A) : kB (decide (false = false)) A B := kB_t a
theorem kB_tf {A B : Prop} (b : B) : kB (decide (true = false)) A B := kB_f b
theorem kB_ft {A B : Prop} (b : B) : kB (decide (false = true)) A B := kB_f b
theorem kB_ntt {A B : Prop} (a : B) : kB (!decide (true = true)) A B := kB_f a
theorem kB_nff {A B : Prop} (a : B) : kB (!decide (false = false)) A B := kB_f a
theorem kB_ntf {A B : Prop} (b : A) : kB (!decide (true = false)) A B := kB_t b
theorem kB_nft {A B : Prop} (b : A) : kB (!decide (false = true)) A B := kB_t b
theorem br_n {k : Bool} {A B : Prop} (q : kB k B A) : kB (!k) A B := by cases k; exact q; exact q
/-! ### statements -/
def kS (b : XS) (Q : Fl → SM → MH → Prop) (f : Fl) (s : SM) (h : MH) : Prop := match f with
  | .nx => Wp (b s h) Q
  | f => Q f s h
section
variable {a b : XS} {e o k : XE} {s : SM} {h : MH} {Q : Fl → SM → MH → Prop} {R : MV → MH → Prop} {c d : XT}
theorem kS_nx (w : Wp (b s h) Q) : kS b Q .nx s h := w
theorem kS_rt {v : MV} (w : Q (.rt v) s h) : kS b Q (.rt v) s h := w
theorem kS_bk (w : Q .bk s h) : kS b Q .bk s h := w
theorem kS_ct (w : Q .ct s h) : kS b Q .ct s h := w
theorem wp_seq (w : Wp (a s h) (kS b Q)) : Wp (sSeq a b s h) Q := by
  obtain ⟨f, s1, h1, e, q⟩ := w
  cases f with
  | nx => obtain ⟨f2, s2, h2, e2, q2⟩ := q; exact ⟨f2, s2, h2, by simp only [sSeq, e, e2], q2⟩
  | rt v => exact ⟨_, _, _, by simp only [sSeq, e], q⟩
  | bk => exact ⟨_, _, _, by simp only [sSeq, e], q⟩
  | ct => exact ⟨_, _, _, by simp only [sSeq, e], q⟩
theorem wp_next (q : Q .nx s h) : Wp (sNext s h) Q := ⟨_, _, _, rfl, q⟩
theorem wp_expr (w : We (e s h) fun _ h1 => Q .nx s h1) : Wp (sExpr e s h) Q := by
  obtain ⟨v, h1, e1, q⟩ := w; exact ⟨_, _, _, by simp only [sExpr, e1], q⟩
theorem wp_ret (w : We (e s h) fun v h1 => Q (.rt v) s h1) : Wp (sRet e s h) Q := by
  obtain ⟨v, h1, e1, q⟩ := w; exact ⟨_, _, _, by simp only [sRet, e1], q⟩
theorem wp_retN (q : Q (.rt .non) s h) : Wp (sRetN s h) Q := ⟨_, _, _, rfl, q⟩
theorem wp_bk (q : Q .bk s h) : Wp (sBk s h) Q := ⟨_, _, _, rfl, q⟩
theorem wp_ct (q : Q .ct s h) : Wp (sCt s h) Q := ⟨_, _, _, rfl, q⟩
theorem wp_if (w : Wt (c s h) fun k h1 => kB k (Wp (a s h1) Q) (Wp (b s h1) Q)) : Wp (sIf c a b s h) Q := by
  obtain ⟨v, h1, e1, q⟩ := w
  cases v with
  | true => obtain ⟨f2, s2, h2, e2, q2⟩ := q; exact ⟨f2, s2, h2, by simp only [sIf, e1, e2], q2⟩
  | false => obtain ⟨f2, s2, h2, e2, q2⟩ := q; exact ⟨f2, s2, h2, by simp only [sIf, e1, e2], q2⟩
theorem wp_asg {g : XG} (w : We (e s h) fun v h1 => Wg (g v s h1) fun s2 h2 => Q .nx s2 h2) : Wp (sAsg e g s h) Q := by
  obtain ⟨v, h1, e1, s2, h2, e2, q⟩ := w; exact ⟨_, _, _, by simp only [sAsg, e1, e2], q⟩
theorem wp_put (w : We (e s h) fun v h1 => We (o s h1) fun d h2 => We (k s h2) fun kk h3 => Wm (stM h3 d kk v) fun h4 => Q .nx s h4) : Wp (sPut o k e s h) Q := by
  obtain ⟨v, h1, e1, d, h2, e2, kk, h3, e3, h4, e4, q⟩ := w; exact ⟨_, _, _, by simp only [sPut, e1, e2, e3, e4], q⟩
theorem wp_par {i j : Nat} (w : We (e s h) fun v h1 => We (o s h1) fun w h2 => Wg (gNm i v s h2) fun s2 h3 => Wg (gNm j w s2 h3) fun s3 h4 => Q .nx s3 h4) : Wp (sPar i j e o s h) Q := by
  obtain ⟨v, h1, e1, d, h2, e2, s2, h3, e3, s3, h4, e4, q⟩ := w; cases e3; cases e4; exact ⟨_, _, _, by simp only [sPar, e1, e2], q⟩
theorem wp_par3 {i j l : Nat} (w : We (e s h) fun v h1 => We (o s h1) fun w h2 => We (k s h2) fun x h3 => Wg (gNm i v s h3) fun s2 h4 => Wg (gNm j w s2 h4) fun s3 h5 => Wg (gNm l x s3 h5) fun s4 h6 => Q .nx s4 h6) : Wp (sPar3 i j l e o k s h) Q := by
  obtain ⟨v, h1, e1, d, h2, e2, x, h3, e3, s4, h4, e4, s5, h5, e5, s6, h6, e6, q⟩ := w; cases e4; cases e5; cases e6; exact ⟨_, _, _, by simp only [sPar3, e1, e2, e3], q⟩
/-! ### targets -/
theorem wg_nm {i : Nat} {v : MV} {P : SM → MH → Prop} (q : P (s.set i (some v)) h) : Wg (gNm i v s h) P := ⟨_, _, rfl, q⟩
theorem wg_nm' {i : Nat} {v : MV} {s2 : SM} {P : SM → MH → Prop} (e : s.set i (some v) = s2) (q : P s2 h) : Wg (gNm i v s h) P := ⟨_, _, rfl, e ▸ q⟩
theorem wg_tp {n : Nat} {g : XGs} {xs : List MV} {P : SM → MH → Prop} (e : xs.length = n) (w : Wg (g xs s h) P) : Wg (gTp n g (.tup xs) s h) P := by
  obtain ⟨s2, h2, e2, q⟩ := w; exact ⟨s2, h2, by simp only [gTp, e, e2, if_true], q⟩
theorem wg_rw {n : Nat} {g : XGs} {xs : List MV} {P : SM → MH → Prop} (e : xs.length = n) (w : Wg (g xs s h) P) : Wg (gTp n g (.row xs) s h) P := by
  obtain ⟨s2, h2, e2, q⟩ := w; exact ⟨s2, h2, by simp only [gTp, e, e2, if_true], q⟩
theorem wg_pair {g : XGs} {p : Int × Int} {P : SM → MH → Prop} (w : Wg (g [.int p.1, .int p.2] s h) P) : Wg (gTp 2 g (pairV p) s h) P := wg_tp rfl w
theorem wg_lp {n : Nat} {g : XGs} {xs : List MV} {P : SM → MH → Prop} (e : xs.length = n) (w : Wg (g xs s h) P) : Wg (gLp n g (.lst xs) s h) P := by
  obtain ⟨s2, h2, e2, q⟩ := w; exact ⟨s2, h2, by simp only [gLp, listOf, e, e2, if_true], q⟩
theorem wg_nil {P : SM → MH → Prop} (q : P s h) : Wg (gsNil [] s h) P := ⟨_, _, rfl, q⟩
theorem wg_cons {g : XG} {r : XGs} {v : MV} {vs : List MV} {P : SM → MH → Prop} (w : Wg (g v s h) fun s1 h1 => Wg (r vs s1 h1) P) : Wg (gsCons g r (v :: vs) s h) P := by
  obtain ⟨s1, h1, e1, s2, h2, e2, q⟩ := w; exact ⟨_, _, by simp only [gsCons, e1, e2], q⟩
/-! ### expressions -/
theorem we_var {i : Nat} {v : MV} (e : s[i]? = some (some v)) (q : R v h) : We (xVar i s h) R := ⟨_, _, var_at e, q⟩
theorem we_c {v : MV} (q : R v h) : We (xC v s h) R := ⟨_, _, rfl, q⟩
theorem we_op {f : MH → MV → MV → Option MV} (w : We (e s h) fun x h1 => We (o s h1) fun y h2 => Wv (f h2 x y) fun v => R v h2) : We (xOp f e o s h) R := by
  obtain ⟨x, h1, e1, y, h2, e2, v, e3, q⟩ := w; exact ⟨_, _, op_at e1 e2 e3, q⟩
theorem we_un {f : MH → MV → Option MV} (w : We (e s h) fun x h1 => Wv (f h1 x) fun v => R v h1) : We (xUn f e s h) R := by
  obtain ⟨x, h1, e1, v, e3, q⟩ := w; exact ⟨_, _, un_at e1 e3, q⟩
theorem wa_nil {P : List MV → MH → Prop} (q : P [] h) : Wa (xNil s h) P := ⟨_, _, rfl, q⟩
theorem wa_cons {r : XA} {P : List MV → MH → Prop} (w : We (e s h) fun x h1 => Wa (r s h1) fun xs h2 => P (x :: xs) h2) : Wa (xCons e r s h) P := by
  obtain ⟨x, h1, e1, xs, h2, e2, q⟩ := w; exact ⟨_, _, by simp only [xCons, e1, e2], q⟩
theorem we_args {f : MH → List MV → Option MV} {r : XA} (w : Wa (r s h) fun xs h1 => Wv (f h1 xs) fun v => R v h1) : We (xArgs f r s h) R := by
  obtain ⟨xs, h1, e1, v, e2, q⟩ := w; exact ⟨_, _, by simp only [xArgs, e1, e2], q⟩
theorem we_call {g : Fn} {r : XA} (w : Wa (r s h) fun xs h1 => We (g xs h1) R) : We (xCall g r s h) R := by
  obtain ⟨xs, h1, e1, v, h2, e2, q⟩ := w; exact ⟨_, _, by simp only [xCall, e1, e2], q⟩
theorem we_tup {r : XA} (w : Wa (r s h) fun xs h1 => R (.tup xs) h1) : We (xTup r s h) R := by
  obtain ⟨xs, h1, e1, q⟩ := w; exact ⟨_, _, by simp only [xTup, e1], q⟩
theorem we_tupR {r : XA} (w : Wa (r s h) fun xs h1 => R (.row xs) h1) : We (xTupR r s h) R := by
  obtain ⟨xs, h1, e1, q⟩ := w; exact ⟨_, _, by simp only [xTupR, e1], q⟩
theorem we_lst {r : XA} (w : Wa (r s h) fun xs h1 => R (.lst xs) h1) : We (xLst r s h) R := by
  obtain ⟨xs, h1, e1, q⟩ := w; exact ⟨_, _, by simp only [xLst, e1], q⟩
theorem we_box (w : We (e s h) fun v h1 => We (boxM v h1) R) : We (xBox e s h) R := by
  obtain ⟨v, h1, e1, v2, h2, e2, q⟩ := w; exact ⟨_, _, by simp only [xBox, e1, e2], q⟩
theorem we_boxl {xs : List MV} (q : R (.ref h.length) (h ++ [.lst xs])) : We (boxM (.lst xs) h) R := ⟨_, _, rfl, q⟩
theorem we_boxk {xs : List (MK × MV)} (q : R (.ref h.length) (h ++ [.dK xs])) : We (boxM (.dK xs) h) R := ⟨_, _, rfl, q⟩
theorem we_boxt {xs : List (List MK × MV)} (q : R (.ref h.length) (h ++ [.dT xs])) : We (boxM (.dT xs) h) R := ⟨_, _, rfl, q⟩
theorem we_if (w : Wt (c s h) fun k h1 => kB k (We (e s h1) R) (We (o s h1) R)) : We (xIf c e o s h) R := by
  obtain ⟨v, h1, e1, q⟩ := w
  cases v with
  | true => obtain ⟨s2, h2, e2, q2⟩ := q; exact ⟨s2, h2, by simp only [xIf, e1, e2], q2⟩
  | false => obtain ⟨s2, h2, e2, q2⟩ := q; exact ⟨s2, h2, by simp only [xIf, e1, e2], q2⟩
theorem we_and (w : We (e s h) fun v h1 => kV v fun k => kB k (We (o s h1) R) (R (.bl false) h1)) : We (xAnd e o s h) R := by
  obtain ⟨v, h1, e1, k, rfl, q⟩ := w
  cases k with
  | true => obtain ⟨s2, h2, e2, q2⟩ := q; exact ⟨s2, h2, by simp only [xAnd, e1, e2], q2⟩
  | false => exact ⟨_, _, by simp only [xAnd, e1], q⟩
theorem we_or (w : We (e s h) fun v h1 => kV v fun k => kB k (R (.bl true) h1) (We (o s h1) R)) : We (xOr e o s h) R := by
  obtain ⟨v, h1, e1, k, rfl, q⟩ := w
  cases k with
  | false => obtain ⟨s2, h2, e2, q2⟩ := q; exact ⟨s2, h2, by simp only [xOr, e1, e2], q2⟩
  | true => exact ⟨_, _, by simp only [xOr, e1], q⟩
theorem we_not (w : We (e s h) fun v h1 => kV v fun k => R (.bl (!k)) h1) : We (xNot e s h) R := by
  obtain ⟨v, h1, e1, k, rfl, q⟩ := w
  exact ⟨_, _, by simp only [xNot, e1], q⟩
theorem we_chain {f f' : MH → MV → MV → Option MV} (w : We (e s h) fun x h1 => We (o s h1) fun y h2 => Wv (f h2 x y) fun v => kV v fun t => kB t (We (k s h2) fun z h3 => Wv (f' h3 y z) fun v => R v h3) (R (.bl false) h2)) : We (xChain f f' e o k s h) R := by
  obtain ⟨x, h1, e1, y, h2, e2, v, e3, t, rfl, q⟩ := w
  cases t with
  | true => obtain ⟨z, h3, e4, v, e5, q⟩ := q; exact ⟨_, _, by simp only [xChain, e1, e2, e3, e4, e5], q⟩
  | false => exact ⟨_, _, by simp only [xChain, e1, e2, e3], q⟩
/-! ### tests -/
theorem wt_b {P : Bool → MH → Prop} (w : We (e s h) fun v h1 => kV v fun k => P k h1) : Wt (xB e s h) P := by
  obtain ⟨v, h1, e1, k, rfl, q⟩ := w; exact ⟨_, _, by simp only [xB, e1], q⟩
theorem wt_and {P : Bool → MH → Prop} (w : Wt (c s h) fun k h1 => kB k (Wt (d s h1) P) (P false h1)) : Wt (xAndT c d s h) P := by
  obtain ⟨k, h1, e1, q⟩ := w
  cases k with
  | true => obtain ⟨s2, h2, e2, q2⟩ := q; exact ⟨s2, h2, by simp only [xAndT, e1, e2], q2⟩
  | false => exact ⟨_, _, by simp only [xAndT, e1], q⟩
theorem wt_or {P : Bool → MH → Prop} (w : Wt (c s h) fun k h1 => kB k (P true h1) (Wt (d s h1) P)) : Wt (xOrT c d s h) P := by
  obtain ⟨k, h1, e1, q⟩ := w
  cases k with
  | false => obtain ⟨s2, h2, e2, q2⟩ := q; exact ⟨s2, h2, by simp only [xOrT, e1, e2], q2⟩
  | true => exact ⟨_, _, by simp only [xOrT, e1], q⟩
theorem wt_not {P : Bool → MH → Prop} (w : Wt (c s h) fun k h1 => P (!k) h1) : Wt (xNotT c s h) P := by
  obtain ⟨k, h1, e1, q⟩ := w; exact ⟨_, _, by simp only [xNotT, e1], q⟩
theorem wt_yes {P : Bool → MH → Prop} (q : P true h) : Wt (cYes s h) P := ⟨_, _, rfl, q⟩
/-! ### what is walked -/
/-- a list, a tuple read as what is walked -/
def kI (v : MV) (h : MH) (P : MI → MH → Prop) : Prop := (∃ n xs, v = .ref n ∧ h[n]? = some (.lst xs) ∧ P (.cell n) h) ∨ (∃ xs, seqOf h v = some xs ∧ (∀ n, v ≠ .ref n) ∧ P (.vals xs) h)
theorem wi_seq {P : MI → MH → Prop} (w : We (e s h) fun v h1 => kI v h1 P) : Wi (iSeq e s h) P := by
  obtain ⟨v, h1, e1, ⟨n, xs, rfl, e2, q⟩ | ⟨xs, e2, nr, q⟩⟩ := w
  · exact ⟨_, _, by simp only [iSeq, e1, e2], q⟩
  · cases v with
    | ref n => exact absurd rfl (nr n)
    | _ => first | exact ⟨_, _, by simp only [iSeq, e1, e2], q⟩ | exact ⟨_, _, by simp [iSeq, e1, e2], q⟩
theorem kI_row {xs : List MV} {P : MI → MH → Prop} (q : P (.vals xs) h) : kI (.row xs) h P := .inr ⟨xs, rfl, (fun _ e => nomatch e), q⟩
theorem kI_tup {xs : List MV} {P : MI → MH → Prop} (q : P (.vals xs) h) : kI (.tup xs) h P := .inr ⟨xs, rfl, (fun _ e => nomatch e), q⟩
theorem kI_lst {xs : List MV} {P : MI → MH → Prop} (q : P (.vals xs) h) : kI (.lst xs) h P := .inr ⟨xs, rfl, (fun _ e => nomatch e), q⟩
theorem kI_ref {n : Nat} {xs : List MV} {P : MI → MH → Prop} (e : h[n]? = some (.lst xs)) (q : P (.cell n) h) : kI (.ref n) h P := .inl ⟨n, xs, rfl, e, q⟩
def kN (v : MV) (R : Int → Prop) : Prop := ∃ j, v = .int j ∧ -4611686018427387904 ≤ j ∧ j < 4611686018427387904 ∧ R j
theorem kN_int {j : Int} {P : Int → Prop} (b : -4611686018427387904 ≤ j ∧ j < 4611686018427387904) (q : P j) : kN (.int j) P := ⟨j, rfl, b.1, b.2, q⟩
theorem wi_rng1 {P : MI → MH → Prop} (w : We (e s h) fun v h1 => kN v fun j => P (.vals (rngM 0 j.toNat)) h1) : Wi (iRange1 e s h) P := by
  obtain ⟨v, h1, e1, j, rfl, j0, j1, q⟩ := w; exact ⟨_, _, rng1_at e1 ⟨j0, j1⟩, q⟩
theorem wi_rng2 {P : MI → MH → Prop} (w : We (e s h) fun v h1 => kN v fun i => We (o s h1) fun v2 h2 => kN v2 fun j => P (.vals (rngM i (j - i).toNat)) h2) : Wi (iRange2 e o s h) P := by
  obtain ⟨v, h1, e1, i, rfl, i0, i1, v2, h2, e2, j, rfl, j0, j1, q⟩ := w
  have q2 : (-(2 ^ 62) ≤ i ∧ i < 2 ^ 62 ∧ -(2 ^ 62) ≤ j ∧ j < 2 ^ 62) := by omega
  refine ⟨_, _, ?_, q⟩
  simp only [iRange2, e1, e2]
  rw [if_pos q2]
def kE (v : MV) (R : List MV → Prop) : Prop := ∃ xs, v = .tup xs ∧ R xs
theorem kE_tup {xs : List MV} {P : List MV → Prop} (q : P xs) : kE (.tup xs) P := ⟨xs, rfl, q⟩
theorem wi_enumT {P : MI → MH → Prop} (w : We (e s h) fun v h1 => kE v fun xs => P (.vals (enumM 0 xs)) h1) : Wi (iEnumT e s h) P := by
  obtain ⟨v, h1, e1, xs, rfl, q⟩ := w; exact ⟨_, _, by simp only [iEnumT, e1], q⟩
def kL (v : MV) (R : List MV → Prop) : Prop := ∃ xs, v = .lst xs ∧ R xs
theorem kL_lst {xs : List MV} {P : List MV → Prop} (q : P xs) : kL (.lst xs) P := ⟨xs, rfl, q⟩
theorem wi_enumL {P : MI → MH → Prop} (w : We (e s h) fun v h1 => kL v fun xs => P (.vals (enumM 0 xs)) h1) : Wi (iEnumL e s h) P := by
  obtain ⟨v, h1, e1, xs, rfl, q⟩ := w; exact ⟨_, _, by simp only [iEnumL, e1], q⟩
theorem wi_zipL {P : MI → MH → Prop} (w : We (e s h) fun v h1 => kL v fun xs => We (o s h1) fun v2 h2 => kL v2 fun ys => xs.length = ys.length ∧ P (.vals (zipM xs ys)) h2) : Wi (iZipL e o s h) P := by
  obtain ⟨v, h1, e1, xs, rfl, v2, h2, e2, ys, rfl, hl, q⟩ := w
  refine ⟨_, _, ?_, q⟩
  simp only [iZipL, e1, e2]
  rw [if_pos hl]
def kRv (v : MV) (R : List MV → Prop) : Prop := ∃ xs, revV v = some xs ∧ R xs
theorem kRv_lst {xs : List MV} {P : List MV → Prop} (q : P xs) : kRv (.lst xs) P := ⟨xs, rfl, q⟩
theorem kRv_tup {xs : List MV} {P : List MV → Prop} (q : P xs) : kRv (.tup xs) P := ⟨xs, rfl, q⟩
theorem kRv_row {xs : List MV} {P : List MV → Prop} (q : P xs) : kRv (.row xs) P := ⟨xs, rfl, q⟩
theorem wi_rev {P : MI → MH → Prop} (w : We (e s h) fun v h1 => kRv v fun xs => P (.vals xs.reverse) h1) : Wi (iRev e s h) P := by
  obtain ⟨v, h1, e1, xs, e2, q⟩ := w; exact ⟨_, _, by simp only [iRev, e1, e2], q⟩
theorem zip_ints (xs ys : List Int) : zipM (xs.map .int) (ys.map .int) = (xs.zip ys).map pairV := by
  unfold zipM
  rw [List.zip_map, List.map_map]
  rfl
def kF (m : MI) (g : XG) (b : XS) (s : SM) (h : MH) (Q : Fl → SM → MH → Prop) : Prop := match m with
  | .vals xs => Wp (forGo g b xs s h) Q
  | .cell n => Wp (fuel fun t => forCell g b n t 0 s h) Q
theorem kF_vals {g : XG} {xs : List MV} (w : Wp (forGo g b xs s h) Q) : kF (.vals xs) g b s h Q := w
theorem kF_cell {g : XG} {n : Nat} (w : Wp (fuel fun t => forCell g b n t 0 s h) Q) : kF (.cell n) g b s h Q := w
theorem wp_for {it : XI} {g : XG} (w : Wi (it s h) fun m h1 => kF m g b s h1 Q) : Wp (sFor it g b s h) Q := by
  obtain ⟨m, h1, e1, q⟩ := w
  cases m with
  | vals xs => obtain ⟨f, s2, h2, e2, q⟩ := q; exact ⟨f, s2, h2, by simp only [sFor, e1, e2], q⟩
  | cell n => obtain ⟨f, s2, h2, e2, q⟩ := q; exact ⟨f, s2, h2, by simp only [sFor, e1, e2], q⟩
def kC (m : MI) (g : XG) (c : XT) (e : XE) (s : SM) (h : MH) (R : MV → MH → Prop) : Prop := match m with
  | .vals xs => Wa (lcGo g c e [] xs s h) fun ys h2 => R (.lst ys) h2
  | .cell n => Wa (fuel fun t => lcCell g c e n t 0 [] s h) fun ys h2 => R (.lst ys) h2
theorem kC_vals {g : XG} {xs : List MV} (w : Wa (lcGo g c e [] xs s h) fun ys h2 => R (.lst ys) h2) : kC (.vals xs) g c e s h R := w
theorem kC_cell {g : XG} {n : Nat} (w : Wa (fuel fun t => lcCell g c e n t 0 [] s h) fun ys h2 => R (.lst ys) h2) : kC (.cell n) g c e s h R := w
theorem we_lc {it : XI} {g : XG} {own : List Nat} (w : Wi (it s h) fun m h1 => kC m g c e (wipeM s own) h1 R) : We (xLc it g c e own s h) R := by
  obtain ⟨m, h1, e1, q⟩ := w
  cases m with
  | vals xs => obtain ⟨ys, h2, e2, q⟩ := q; exact ⟨_, h2, by simp only [xLc, e1, e2], q⟩
  | cell n => obtain ⟨ys, h2, e2, q⟩ := q; exact ⟨_, h2, by simp only [xLc, e1, e2], q⟩
theorem we_lc' {it : XI} {g : XG} {own : List Nat} {s2 : SM} (es : wipeM s own = s2) (w : Wi (it s h) fun m h1 => kC m g c e s2 h1 R) : We (xLc it g c e own s h) R := we_lc (es ▸ w)
theorem we_lcK {n : Nat} {g : XG} {own : List Nat} {kvs : List (MK × MV)} (e1 : s[n]? = some (some (.dK kvs))) (w : Wa (lcGo g c e [] (kvs.map fun kv => keyV kv.1) (wipeM s own) h) fun ys h2 => R (.lst ys) h2) : We (xLcK n g c e own s h) R := by
  obtain ⟨ys, h2, e2, q⟩ := w; exact ⟨_, h2, by simp only [xLcK, e1, e2], q⟩
/-- a comprehension over what some things stand for -/
theorem wlc {α : Type} {g : XG} {P : List MV → MH → Prop} (t : α → MV) (p : α → Bool) (f : α → MV) (xs : List α) {vs : List MV} (ev : vs = xs.map t) (hz : xs.length ≤ 16777216)
    (step : ∀ x ∈ xs, Wg (g (t x) s h) fun s1 h1 => Wt (c s1 h1) fun k h2 => k = p x ∧ h2 = h ∧ (h1 = h → p x = true → We (e s1 h) fun v h3 => v = f x ∧ h3 = h) ∧ h1 = h) (q : P ((xs.filter p).map f) h) : Wa (lcGo g c e [] vs s h) P := by
  subst ev
  have := lcGo_gen (g := g) (c := c) (e := e) (s := s) (h := h) t p f xs [] (by simpa [szLine] using hz) fun x hx => by
    obtain ⟨s1, h1, e1, k, h2, e2, rfl, rfl, st, rfl⟩ := step x hx
    refine ⟨s1, e1, e2, fun hp => ?_⟩
    obtain ⟨v, h3, e3, rfl, rfl⟩ := st rfl hp
    exact e3
  exact ⟨_, _, this, by rw [List.nil_append]; exact q⟩
theorem wlcA {α : Type} {g : XG} {P : List MV → MH → Prop} (t : α → MV) (f : α → MV) (xs : List α) {vs : List MV} (ev : vs = xs.map t) (hz : xs.length ≤ 16777216)
    (step : ∀ x ∈ xs, Wg (g (t x) s h) fun s1 h1 => We (e s1 h1) fun v h3 => v = f x ∧ h3 = h ∧ h1 = h) (q : P (xs.map f) h) : Wa (lcGo g cYes e [] vs s h) P := by
  subst ev
  have := lcGo_all (g := g) (c := cYes) (e := e) (s := s) (h := h) t f xs [] (by simpa [szLine] using hz) fun x hx => by
    obtain ⟨s1, h1, e1, v, h3, e3, rfl, rfl, rfl⟩ := step x hx
    exact ⟨s1, e1, rfl, e3⟩
  exact ⟨_, _, this, by rw [List.nil_append]; exact q⟩
theorem we_lcKr {n m : Nat} {g : XG} {own : List Nat} {kvs : List (MK × MV)} (e1 : s[n]? = some (some (.ref m))) (e2 : h[m]? = some (.dK kvs)) (w : Wa (lcGo g c e [] (kvs.map fun kv => keyV kv.1) (wipeM s own) (h.set m (.lkK kvs))) fun ys h2 => ∃ kvs', h2[m]? = some (.lkK kvs') ∧ R (.lst ys) (h2.set m (.dK kvs'))) : We (xLcK n g c e own s h) R := by
  obtain ⟨ys, h2, e3, kvs', e4, q⟩ := w; exact ⟨_, _, by simp only [xLcK, e1, e2, e3, e4], q⟩
theorem we_lcKE {m : Nat} {g : XG} {own : List Nat} {kvs : List (MK × MV)} {s2 : SM} (e1 : ∃ h1, o s h = some (.ref m, h1)) (e2 : h[m]? = some (.dK kvs)) (e3 : o s (h.set m (.lkK kvs)) = some (.ref m, h.set m (.lkK kvs))) (es : wipeM s own = s2) (w : Wa (lcGo g c e [] (kvs.map fun kv => keyV kv.1) s2 (h.set m (.lkK kvs))) fun ys h2 => ∃ kvs', h2[m]? = some (.lkK kvs') ∧ R (.lst ys) (h2.set m (.dK kvs'))) : We (xLcKE o g c e own s h) R := by
  obtain ⟨ys, h2, e4, kvs', e5, q⟩ := w
  obtain ⟨h1, e1⟩ := e1
  subst es
  have e6 : (h.set m (.lkK kvs))[m]? = some (.lkK kvs) := get_set (List.getElem?_eq_some_iff.mp e2).1
  exact ⟨_, _, by simp only [xLcKE, e1, e2, e3, if_true, e6, e4, e5], q⟩
theorem wp_forKE {m : Nat} {g : XG} {kvs : List (MK × MV)} (e1 : ∃ h1, o s h = some (.ref m, h1)) (e2 : h[m]? = some (.dK kvs)) (e3 : o s (h.set m (.lkK kvs)) = some (.ref m, h.set m (.lkK kvs))) (w : Wp (forGo g b (kvs.map fun kv => keyV kv.1) s (h.set m (.lkK kvs))) fun f s2 h2 => ∃ kvs', h2[m]? = some (.lkK kvs') ∧ Q f s2 (h2.set m (.dK kvs'))) : Wp (sForKE o g b s h) Q := by
  obtain ⟨f, s2, h2, e4, kvs', e5, q⟩ := w
  obtain ⟨h1, e1⟩ := e1
  have e6 : (h.set m (.lkK kvs))[m]? = some (.lkK kvs) := get_set (List.getElem?_eq_some_iff.mp e2).1
  exact ⟨_, _, _, by simp only [sForKE, e1, e2, e3, if_true, e6, e4, e5], q⟩
theorem wforRev {g : XG} {n : Nat} {xs : List MV} (I : Nat → SM → MH → Prop) (hc : ∀ i s h, I i s h → h[n]? = some (.lst xs)) (h0 : I xs.length s h)
    (step : ∀ i x s h, xs[i]? = some x → I (i + 1) s h → Wg (g x s h) fun s1 h1 => Wp (b s1 h1) fun f s2 h2 => ((f = .nx ∨ f = .ct) ∧ I i s2 h2))
    (fin : ∀ s h, I 0 s h → Q .nx s h) : Wp (forRev g b n xs.length s h) Q := by
  have key : ∀ (k : Nat) (s : SM) (h : MH), k ≤ xs.length → I k s h → Wp (forRev g b n k s h) Q := fun k => by
    induction k with
    | zero => exact fun s h _ i => ⟨_, _, _, rfl, fin s h i⟩
    | succ k ih =>
      intro s h hk i
      have ex : xs[k]? = some xs[k] := List.getElem?_eq_getElem hk
      obtain ⟨s1, h1, e1, f, s2, h2, e2, c, i2⟩ := step k _ s h ex i
      obtain ⟨f3, s3, h3, e3, q⟩ := ih s2 h2 (by omega) i2
      refine ⟨f3, s3, h3, ?_, q⟩
      rcases c with rfl | rfl <;> simp only [forRev, hc _ _ _ i, ex, e1, e2, e3]
  exact key _ s h (Nat.le_refl _) h0
theorem wp_forRevC {g : XG} {n : Nat} {xs : List MV} (w : We (o s h) fun v h1 => v = .ref n ∧ h1[n]? = some (.lst xs) ∧ Wp (forRev g b n xs.length s h1) Q) : Wp (sForRevC o g b s h) Q := by
  obtain ⟨v, h1, e1, rfl, e2, f, s2, h2, e3, q⟩ := w
  exact ⟨_, _, _, by simp only [sForRevC, e1, e2, e3], q⟩
/-! ### slices -/
theorem wo_none {P : Option Int → MH → Prop} (q : P none h) : Wo (xNoPart s h) P := ⟨_, _, rfl, q⟩
def kP (v : MV) (P : Int → Prop) : Prop := ∃ i, v = .int i ∧ P i
theorem kP_int {i : Int} {P : Int → Prop} (q : P i) : kP (.int i) P := ⟨i, rfl, q⟩
theorem wo_part {P : Option Int → MH → Prop} (w : We (e s h) fun v h1 => kP v fun i => P (some i) h1) : Wo (xPart e s h) P := by
  obtain ⟨v, h1, e1, i, rfl, q⟩ := w; exact ⟨_, _, by simp only [xPart, e1], q⟩
theorem we_slL {lo hi : XO} (w : We (e s h) fun v h1 => Wo (lo s h1) fun l h2 => Wo (hi s h2) fun u h3 => ∃ xs, listOf h3 v = some xs ∧ R (.lst (cutM xs l u)) h3) : We (xSlL e lo hi s h) R := by
  obtain ⟨v, h1, e1, l, h2, e2, u, h3, e3, xs, e4, q⟩ := w; exact ⟨_, _, by simp only [xSlL, e1, e2, e3, e4], q⟩
theorem we_slT {lo hi : XO} (w : We (e s h) fun v h1 => Wo (lo s h1) fun l h2 => Wo (hi s h2) fun u h3 => ∃ xs, tupV v = some xs ∧ ∀ v', tupV v' = some (cutM xs l u) → R v' h3) : We (xSlT e lo hi s h) R := by
  obtain ⟨v, h1, e1, l, h2, e2, u, h3, e3, xs, e4, q⟩ := w
  obtain ⟨v', e5, e6⟩ := slT_at e1 e2 e3 e4
  exact ⟨_, _, e5, q v' e6⟩
theorem we_slR {lo hi : XO} (w : We (e s h) fun v h1 => Wo (lo s h1) fun l h2 => Wo (hi s h2) fun u h3 => ∃ xs, v = .row xs ∧ R (.row (cutM xs l u)) h3) : We (xSlT e lo hi s h) R := by
  obtain ⟨v, h1, e1, l, h2, e2, u, h3, e3, xs, rfl, q⟩ := w
  exact ⟨_, _, slR_at e1 e2 e3, q⟩
/-! ### methods -/
theorem we_append (w : We (o s h) fun d h1 => ∃ n ys, d = .ref n ∧ h1[n]? = some (.lst ys) ∧ We (e s h1) fun v h2 => ∃ xs, h2[n]? = some (.lst xs) ∧ xs.length < 16777216 ∧ R .non (h2.set n (.lst (xs ++ [v])))) : We (xAppend o e s h) R := by
  obtain ⟨d, h1, e1, n, ys, rfl, e2, v, h2, e3, xs, e4, z, q⟩ := w
  exact ⟨_, _, append_at e1 e2 e3 e4 (by unfold szLine; exact z), q⟩
theorem we_extend (w : We (o s h) fun d h1 => ∃ n ys, d = .ref n ∧ h1[n]? = some (.lst ys) ∧ We (e s h1) fun v h2 => ∃ xs zs, v = .lst zs ∧ h2[n]? = some (.lst xs) ∧ xs.length + zs.length ≤ 16777216 ∧ R .non (h2.set n (.lst (xs ++ zs)))) : We (xExtend o e s h) R := by
  obtain ⟨d, h1, e1, n, ys, rfl, e2, v, h2, e3, xs, zs, rfl, e4, z, q⟩ := w
  exact ⟨_, _, extend_at e1 e2 e3 e4 (by unfold szLine; exact z), q⟩
theorem we_extendT (w : We (o s h) fun d h1 => ∃ n ys, d = .ref n ∧ h1[n]? = some (.lst ys) ∧ We (e s h1) fun v h2 => ∃ xs zs, v = .tup zs ∧ h2[n]? = some (.lst xs) ∧ xs.length + zs.length ≤ 16777216 ∧ R .non (h2.set n (.lst (xs ++ zs)))) : We (xExtendT o e s h) R := by
  obtain ⟨d, h1, e1, n, ys, rfl, e2, v, h2, e3, xs, zs, rfl, e4, z, q⟩ := w
  exact ⟨_, _, extendT_at e1 e2 e3 e4 (by unfold szLine; exact z), q⟩
theorem we_pop (w : We (o s h) fun d h1 => ∃ n xs v, d = .ref n ∧ h1[n]? = some (.lst (xs ++ [v])) ∧ R v (h1.set n (.lst xs))) : We (xPop o s h) R := by
  obtain ⟨d, h1, e1, n, xs, v, rfl, e2, q⟩ := w
  exact ⟨_, _, pop_at e1 e2, q⟩
theorem we_clearD (w : We (o s h) fun d h1 => ∃ n xs, d = .ref n ∧ h1[n]? = some (.dK xs) ∧ R .non (h1.set n (.dK []))) : We (xClearD o s h) R := by
  obtain ⟨d, h1, e1, n, xs, rfl, e2, q⟩ := w
  exact ⟨_, _, by simp only [xClearD, e1, e2], q⟩
theorem we_clearL (w : We (o s h) fun d h1 => ∃ n xs, d = .ref n ∧ h1[n]? = some (.lst xs) ∧ R .non (h1.set n (.lst []))) : We (xClearL o s h) R := by
  obtain ⟨d, h1, e1, n, xs, rfl, e2, q⟩ := w
  exact ⟨_, _, by simp only [xClearL, e1, e2], q⟩
theorem we_get2 (w : We (o s h) fun d h1 => isDct h1 d = true ∧ We (k s h1) fun y h2 => We (e s h2) fun x h3 => ∃ r, lookM h3 d y = some r ∧ R (r.getD x) h3) : We (xGet2 o k e s h) R := by
  obtain ⟨d, h1, e1, hd, y, h2, e2, x, h3, e3, r, e4, q⟩ := w
  exact ⟨_, _, by simp only [xGet2, e1, hd, if_true, e2, e3, e4], q⟩
theorem we_get1 (w : We (o s h) fun d h1 => isDct h1 d = true ∧ We (k s h1) fun y h2 => ∃ r, lookM h2 d y = some r ∧ R (r.getD .non) h2) : We (xGet1 o k s h) R := by
  obtain ⟨d, h1, e1, hd, y, h2, e2, r, e4, q⟩ := w
  exact ⟨_, _, by simp only [xGet1, e1, hd, if_true, e2, e4], q⟩
theorem we_dpop (w : We (o s h) fun d h1 => ∃ n xs, d = .ref n ∧ h1[n]? = some (.dK xs) ∧ We (k s h1) fun y h2 => ∃ kvs kk v, h2[n]? = some (.dK kvs) ∧ keyOf y = some kk ∧ getK kvs kk = some v ∧ R v (h2.set n (.dK (dropM kvs kk)))) : We (xDPop o k s h) R := by
  obtain ⟨d, h1, e1, n, xs, rfl, e2, y, h2, e3, kvs, kk, v, e4, e5, e6, q⟩ := w
  exact ⟨_, _, by simp only [xDPop, e1, e2, e3, e4, e5, e6], q⟩
/-! ### defs -/
def kR (f : Fl) (R : MV → Prop) : Prop := (f = .nx ∧ R .non) ∨ ∃ v, f = .rt v ∧ R v
theorem kR_rt {v : MV} {P : MV → Prop} (q : P v) : kR (.rt v) P := .inr ⟨v, rfl, q⟩
theorem kR_nx {P : MV → Prop} (q : P .non) : kR .nx P := .inl ⟨rfl, q⟩
theorem we_def {n : Nat} {vs : List MV} (w : Wp (b (sBegin n vs) h) fun f _ h1 => kR f fun v => R v h1) : We (runDef n b vs h) R := by
  obtain ⟨f, s1, h1, e1, ⟨rfl, q⟩ | ⟨v, rfl, q⟩⟩ := w
  · exact ⟨_, _, run_nx e1, q⟩
  · exact ⟨_, _, run_rt e1, q⟩
/-! ### loops -/
theorem wfor {g : XG} (I : Nat → SM → MH → Prop) {xs : List MV} (h0 : I 0 s h)
    (step : ∀ i x s h, xs[i]? = some x → I i s h → Wg (g x s h) fun s1 h1 => Wp (b s1 h1) fun f s2 h2 => ((f = .nx ∨ f = .ct) ∧ I (i + 1) s2 h2))
    (fin : ∀ s h, I xs.length s h → Q .nx s h) : Wp (forGo g b xs s h) Q := by
  obtain ⟨s', h', e, i⟩ := forGo_run (g := g) (b := b) I xs 0 s h h0 fun i x s h ex hi => by
    rw [Nat.zero_add] at hi ⊢
    obtain ⟨s1, h1, e1, f, s2, h2, e2, c, i2⟩ := step i x s h ex hi
    exact ⟨s1, h1, f, s2, h2, e1, e2, c, i2⟩
  rw [Nat.zero_add] at i
  exact ⟨_, _, _, e, fin _ _ i⟩
theorem wforR {g : XG} (I : Nat → SM → MH → Prop) {xs : List MV} (h0 : I 0 s h)
    (step : ∀ i x s h, xs[i]? = some x → I i s h → Wg (g x s h) fun s1 h1 => Wp (b s1 h1) fun f s2 h2 => (((f = .nx ∨ f = .ct) ∧ I (i + 1) s2 h2) ∨ (f = .bk ∧ Q .nx s2 h2) ∨ ∃ v, f = .rt v ∧ Q (.rt v) s2 h2))
    (fin : ∀ s h, I xs.length s h → Q .nx s h) : Wp (forGo g b xs s h) Q := by
  obtain ⟨f, s', h', e, i⟩ := forGo_ret (g := g) (b := b) I Q xs 0 s h h0 (fun s h i => by rw [Nat.zero_add] at i; exact fin s h i) fun i x s h ex hi => by
    rw [Nat.zero_add] at hi ⊢
    obtain ⟨s1, h1, e1, f, s2, h2, e2, c⟩ := step i x s h ex hi
    exact ⟨s1, h1, f, s2, h2, e1, e2, c⟩
  exact ⟨_, _, _, e, i⟩
theorem wforC {g : XG} {n : Nat} {xs : List MV} (I : Nat → SM → MH → Prop) (hc : ∀ i s h, I i s h → h[n]? = some (.lst xs)) (h0 : I 0 s h)
    (step : ∀ i x s h, xs[i]? = some x → I i s h → Wg (g x s h) fun s1 h1 => Wp (b s1 h1) fun f s2 h2 => ((f = .nx ∨ f = .ct) ∧ I (i + 1) s2 h2))
    (fin : ∀ s h, I xs.length s h → Q .nx s h) : Wp (fuel fun t => forCell g b n t 0 s h) Q := by
  obtain ⟨s', h', e, i⟩ := forCell_run (g := g) (b := b) (n := n) (xs := xs) I hc (fun i x s h ex hi => by
    obtain ⟨s1, h1, e1, f, s2, h2, e2, c, i2⟩ := step i x s h ex hi
    exact ⟨s1, h1, f, s2, h2, e1, e2, c, i2⟩) xs.length 0 s h (by omega) (by omega) h0
  exact ⟨_, _, _, fuel_of (f := fun t => forCell g b n t 0 s h) (fun m r e => forCell_mono m 0 s h r e) e, fin _ _ i⟩
theorem wwhile (I : SM → MH → Prop) (mu : SM → MH → Nat) (h0 : I s h)
    (step : ∀ s h, I s h → Wt (c s h) fun k h1 => kB k (Wp (b s h1) fun f s2 h2 => (f = .nx ∨ f = .ct) ∧ I s2 h2 ∧ mu s2 h2 < mu s h) (Q .nx s h1)) : Wp (sWhile c b s h) Q := by
  obtain ⟨s', h', e, q⟩ := sWhile_run (c := c) (b := b) I (fun s h => Q .nx s h) mu (fun s h hi => by
    obtain ⟨k, h1, e1, q⟩ := step s h hi
    cases k with
    | true => obtain ⟨f, s2, h2, e2, a1, a2, a3⟩ := q; exact .inr ⟨h1, f, s2, h2, e1, e2, a1, a2, a3⟩
    | false => exact .inl ⟨h1, e1, q⟩) s h h0
  exact ⟨_, _, _, e, q⟩
theorem wwhileN (I : Nat → SM → MH → Prop) (n : Nat) (h0 : I n s h)
    (step : ∀ n s h, I n s h → Wt (c s h) fun k h1 => kB k (Wp (b s h1) fun f s2 h2 => (f = .nx ∨ f = .ct) ∧ ∃ m, m < n ∧ I m s2 h2) (Q .nx s h1)) : Wp (sWhile c b s h) Q := by
  have key : ∀ (k : Nat) (n : Nat) (s : SM) (h : MH), n < k → I n s h → ∃ n s' h', whileGo c b n s h = some (.nx, s', h') ∧ Q .nx s' h' := fun k => by
    induction k with
    | zero => exact fun n s h hk => absurd hk (Nat.not_lt_zero _)
    | succ k ih =>
      intro n s h hk hi
      obtain ⟨t, h1, e1, q⟩ := step n s h hi
      cases t with
      | false => exact ⟨1, s, h1, by simp only [whileGo, e1], q⟩
      | true =>
        obtain ⟨f, s2, h2, e2, hf, m, hm, i2⟩ := q
        obtain ⟨N, s', h', e3, q⟩ := ih m s2 h2 (by omega) i2
        refine ⟨N + 1, s', h', ?_, q⟩
        rcases hf with rfl | rfl <;> simp only [whileGo, e1, e2, e3]
  obtain ⟨N, s', h', e, q⟩ := key (n + 1) n s h (Nat.lt_succ_self _) h0
  exact ⟨_, _, _, fuel_of (f := fun n => whileGo c b n s h) (fun n r e => whileGo_mono n s h r e) e, q⟩
theorem wwhileNR (I : Nat → SM → MH → Prop) (n : Nat) (h0 : I n s h)
    (step : ∀ n s h, I n s h → Wt (c s h) fun k h1 => kB k (Wp (b s h1) fun f s2 h2 => ((f = .nx ∨ f = .ct) ∧ ∃ m, m < n ∧ I m s2 h2) ∨ (f = .bk ∧ Q .nx s2 h2) ∨ ∃ v, f = .rt v ∧ Q (.rt v) s2 h2) (Q .nx s h1)) : Wp (sWhile c b s h) Q := by
  have key : ∀ (k : Nat) (n : Nat) (s : SM) (h : MH), n < k → I n s h → ∃ n f s' h', whileGo c b n s h = some (f, s', h') ∧ Q f s' h' := fun k => by
    induction k with
    | zero => exact fun n s h hk => absurd hk (Nat.not_lt_zero _)
    | succ k ih =>
      intro n s h hk hi
      obtain ⟨t, h1, e1, q⟩ := step n s h hi
      cases t with
      | false => exact ⟨1, .nx, s, h1, by simp only [whileGo, e1], q⟩
      | true =>
        obtain ⟨f, s2, h2, e2, ⟨hf, m, hm, i2⟩ | ⟨rfl, q⟩ | ⟨v, rfl, q⟩⟩ := q
        · obtain ⟨N, f', s', h', e3, q⟩ := ih m s2 h2 (by omega) i2
          refine ⟨N + 1, f', s', h', ?_, q⟩
          rcases hf with rfl | rfl <;> simp only [whileGo, e1, e2, e3]
        · exact ⟨1, .nx, s2, h2, by simp only [whileGo, e1, e2], q⟩
        · exact ⟨1, .rt v, s2, h2, by simp only [whileGo, e1, e2], q⟩
  obtain ⟨N, f', s', h', e, q⟩ := key (n + 1) n s h (Nat.lt_succ_self _) h0
  exact ⟨_, _, _, fuel_of (f := fun n => whileGo c b n s h) (fun n r e => whileGo_mono n s h r e) e, q⟩
theorem wwhileR (I : SM → MH → Prop) (mu : SM → MH → Nat) (h0 : I s h)
    (step : ∀ s h, I s h → Wt (c s h) fun k h1 => kB k (Wp (b s h1) fun f s2 h2 => ((f = .nx ∨ f = .ct) ∧ I s2 h2 ∧ mu s2 h2 < mu s h) ∨ (f = .bk ∧ Q .nx s2 h2) ∨ ∃ v, f = .rt v ∧ Q (.rt v) s2 h2) (Q .nx s h1)) : Wp (sWhile c b s h) Q := by
  obtain ⟨f, s', h', e, q⟩ := sWhile_ret (c := c) (b := b) I Q mu (fun s h hi => by
    obtain ⟨k, h1, e1, q⟩ := step s h hi
    cases k with
    | true => obtain ⟨f, s2, h2, e2, a⟩ := q; exact .inr ⟨h1, f, s2, h2, e1, e2, a⟩
    | false => exact .inl ⟨h1, e1, q⟩) s h h0
  exact ⟨_, _, _, e, q⟩
theorem wp_forK {n : Nat} {g : XG} {kvs : List (MK × MV)} (e1 : s[n]? = some (some (.dK kvs))) (w : Wp (forGo g b (kvs.map fun kv => keyV kv.1) s h) Q) : Wp (sForK n g b s h) Q := by
  obtain ⟨f, s2, h2, e2, q⟩ := w; exact ⟨_, _, _, (forK_at e1).trans e2, q⟩
end
/-! ### operations -/
section
variable {h : MH} {R : MV → Prop} {i j : Int} {a b : Bool} {xs ys : List MV}
theorem wv_add (q : R (.int (i + j))) : Wv (opAdd h (.int i) (.int j)) R := ⟨_, rfl, q⟩
theorem wv_sub (q : R (.int (i - j))) : Wv (opSub h (.int i) (.int j)) R := ⟨_, rfl, q⟩
theorem wv_neg (q : R (.int (-i))) : Wv (opNeg h (.int i)) R := ⟨_, rfl, q⟩
theorem wv_lt (q : R (.bl (decide (i < j)))) : Wv (opLt h (.int i) (.int j)) R := ⟨_, rfl, q⟩
theorem wv_le (q : R (.bl (decide (i ≤ j)))) : Wv (opLe h (.int i) (.int j)) R := ⟨_, rfl, q⟩
theorem wv_gt (q : R (.bl (decide (j < i)))) : Wv (opGt h (.int i) (.int j)) R := ⟨_, rfl, q⟩
theorem wv_ge (q : R (.bl (decide (j ≤ i)))) : Wv (opGe h (.int i) (.int j)) R := ⟨_, rfl, q⟩
theorem wv_mod (c : 0 < j) (q : R (.int (i % j))) : Wv (opMod h (.int i) (.int j)) R := ⟨_, mod_ok c, q⟩
theorem wv_div (c : 0 < j) (c2 : j < 1606938044258990275541962092341162602522202993782792835301376) (q : R (.int (i / j))) : Wv (opDiv h (.int i) (.int j)) R := ⟨_, div_ok c c2, q⟩
theorem wv_mul (a0 : -1606938044258990275541962092341162602522202993782792835301376 < i ∧ i < 1606938044258990275541962092341162602522202993782792835301376) (b0 : -1606938044258990275541962092341162602522202993782792835301376 < j ∧ j < 1606938044258990275541962092341162602522202993782792835301376) (q : R (.int (i * j))) : Wv (opMul h (.int i) (.int j)) R := ⟨_, mul_ok a0.1 a0.2 b0.1 b0.2, q⟩
theorem wv_eqii (q : R (.bl (decide (i = j)))) : Wv (opEq h (.int i) (.int j)) R := ⟨_, by rw [eq_ii]; congr 2, q⟩
theorem wv_neii (q : R (.bl (!decide (i = j)))) : Wv (opNe h (.int i) (.int j)) R := ⟨_, by rw [ne_ii]; congr 2, q⟩
theorem wv_isbl (q : R (.bl (decide (a = b)))) : Wv (opIsBl h (.bl a) (.bl b)) R := ⟨_, rfl, q⟩
theorem wv_notbl (q : R (.bl (!decide (a = b)))) : Wv (opNotBl h (.bl a) (.bl b)) R := ⟨_, rfl, q⟩
theorem wv_lenL (q : R (.int xs.length)) : Wv (fLen h [.lst xs]) R := ⟨_, rfl, q⟩
theorem wv_lenT (q : R (.int xs.length)) : Wv (fLen h [.tup xs]) R := ⟨_, rfl, q⟩
theorem wv_lenR (q : R (.int xs.length)) : Wv (fLen h [.row xs]) R := ⟨_, rfl, q⟩
theorem wv_lenK {kvs : List (MK × MV)} (q : R (.int kvs.length)) : Wv (fLen h [.dK kvs]) R := ⟨_, len_dK, q⟩
theorem wv_abs (q : R (.int (if i < 0 then -i else i))) : Wv (fAbs h [.int i]) R := ⟨_, rfl, q⟩
theorem wv_max (q : R (.int (if j > i then j else i))) : Wv (fMax2 h [.int i, .int j]) R := ⟨_, rfl, q⟩
theorem wv_min (q : R (.int (if j < i then j else i))) : Wv (fMin2 h [.int i, .int j]) R := ⟨_, rfl, q⟩
theorem wv_listL (q : R (.lst xs)) : Wv (fList h [.lst xs]) R := ⟨_, rfl, q⟩
theorem wv_listT (q : R (.lst xs)) : Wv (fList h [.tup xs]) R := ⟨_, rfl, q⟩
theorem wv_listR (q : R (.lst xs)) : Wv (fList h [.row xs]) R := ⟨_, rfl, q⟩
theorem wv_tupL (q : R (.row xs)) : Wv (fTuple h [.lst xs]) R := ⟨_, rfl, q⟩
theorem wv_tupT (q : R (.tup xs)) : Wv (fTuple h [.tup xs]) R := ⟨_, rfl, q⟩
theorem wv_tupR (q : R (.row xs)) : Wv (fTuple h [.row xs]) R := ⟨_, rfl, q⟩
theorem wv_ixL (w : Wv (atM xs i) R) : Wv (opIx h (.lst xs) (.int i)) R := w
theorem wv_ixT (w : Wv (atM xs i) R) : Wv (opIx h (.tup xs) (.int i)) R := w
theorem wv_ixR (w : Wv (atM xs i) R) : Wv (opIx h (.row xs) (.int i)) R := w
theorem wv_at0 {x : MV} (q : R x) : Wv (atM (x :: xs) 0) R := ⟨_, at_0, q⟩
theorem wv_at1 {x y : MV} (q : R y) : Wv (atM (x :: y :: xs) 1) R := ⟨_, at_1, q⟩
theorem wv_at2 {x y z : MV} (q : R z) : Wv (atM (x :: y :: z :: xs) 2) R := ⟨_, at_2, q⟩
theorem wv_ixP0 {p : Int × Int} (q : R (.int p.1)) : Wv (opIx h (pairV p) (.int 0)) R := ⟨_, rfl, q⟩
theorem wv_ixP1 {p : Int × Int} (q : R (.int p.2)) : Wv (opIx h (pairV p) (.int 1)) R := ⟨_, rfl, q⟩
theorem wv_revL (q : R (.lst xs.reverse)) : Wv (opRevLst h (.lst xs)) R := ⟨_, rfl, q⟩
theorem wv_pick {α : Type} {f : α → MV} {xs : List α} (hn : 0 ≤ i) (hx : xs ≠ []) (q : ∀ x ∈ xs, R (f x)) : Wv (atM (xs.map f) (i % (((xs.map f).length : Nat) : Int))) R := by
  obtain ⟨x, hm, e⟩ := pick (f := f) hn hx
  rw [List.length_map]
  exact ⟨_, e, q x hm⟩
theorem wv_pickn {α : Type} {f : α → MV} {xs : List α} {n : Int} (hn : 0 ≤ i) (hx : xs ≠ []) (en : n = xs.length) (q : ∀ x ∈ xs, R (f x)) : Wv (atM (xs.map f) (i % n)) R := by
  obtain ⟨x, hm, e⟩ := pick (f := f) hn hx
  subst en
  exact ⟨_, e, q x hm⟩
theorem wv_inL {r : List Int} (q : R (.bl (decide (i ∈ r)))) : Wv (opIn h (.int i) (.lst (r.map .int))) R := ⟨_, in_lst _ _ _, q⟩
theorem wv_inT {r : List Int} (q : R (.bl (decide (i ∈ r)))) : Wv (opIn h (.int i) (.tup (r.map .int))) R := ⟨_, in_tup _ _ _, q⟩
theorem wv_inR {r : List Int} (q : R (.bl (decide (i ∈ r)))) : Wv (opIn h (.int i) (.row (r.map .int))) R := ⟨_, in_row _ _ _, q⟩
theorem wv_ninL {r : List Int} (q : R (.bl (!decide (i ∈ r)))) : Wv (opNotIn h (.int i) (.lst (r.map .int))) R := ⟨_, notin_lst _ _ _, q⟩
theorem wv_ninT {r : List Int} (q : R (.bl (!decide (i ∈ r)))) : Wv (opNotIn h (.int i) (.tup (r.map .int))) R := ⟨_, notin_tup _ _ _, q⟩
theorem wv_ninR {r : List Int} (q : R (.bl (!decide (i ∈ r)))) : Wv (opNotIn h (.int i) (.row (r.map .int))) R := ⟨_, notin_row _ _ _, q⟩
theorem wv_inW {W : WL} (q : R (.bl (decide (i ∈ keysOf' W)))) : Wv (opIn h (.int i) (.dK (websV W))) R := ⟨_, in_webs _ _ _, q⟩
theorem wv_ninW {W : WL} (q : R (.bl (!decide (i ∈ keysOf' W)))) : Wv (opNotIn h (.int i) (.dK (websV W))) R := ⟨_, notin_webs _ _ _, q⟩
theorem wv_keysSW {W : WL} (q : R (.lst ((sortI (keysOf' W)).map .int))) : Wv (fKeysS h (.dK (websV W))) R := ⟨_, keysS_webs _ _, q⟩
theorem wv_keysTW {W : WL} (q : R (.tup ((keysOf' W).map .int))) : Wv (fKeysT h (.dK (websV W))) R := ⟨_, keysT_webs _ _, q⟩
theorem wv_keysLW {W : WL} (q : R (.lst ((keysOf' W).map .int))) : Wv (fKeys h (.dK (websV W))) R := ⟨_, keysL_webs _ _, q⟩
theorem wv_sortL {r : List Int} (q : R (.lst ((sortI r).map .int))) : Wv (fSorted h [.lst (r.map .int)]) R := ⟨_, sorted_lst _ _, q⟩
theorem wv_sortT {r : List Int} (q : R (.lst ((sortI r).map .int))) : Wv (fSorted h [.tup (r.map .int)]) R := ⟨_, sorted_tup _ _, q⟩
theorem wv_sortR {r : List Int} (q : R (.lst ((sortI r).map .int))) : Wv (fSorted h [.row (r.map .int)]) R := ⟨_, sorted_tup h r, q⟩
theorem wv_sortP {L : List (Int × Int)} (q : R (.lst ((sortP L).map pairV))) : Wv (fSorted h [.lst (L.map pairV)]) R := ⟨_, sorted_pairs _ _, q⟩
theorem wv_neP {L M : List (Int × Int)} (q : R (.bl (!decide (L = M)))) : Wv (opNe h (.lst (L.map pairV)) (.lst (M.map pairV))) R := ⟨_, ne_pairs _ _, q⟩
theorem wv_isN {v : MV} (q : R (.bl (match v with | .non => true | _ => false))) : Wv (opIsNon h v .non) R := ⟨_, rfl, q⟩
theorem wv_notN {v : MV} (q : R (.bl (match v with | .non => false | _ => true))) : Wv (opNotNon h v .non) R := ⟨_, rfl, q⟩
theorem wv_isi {v : MV} {t a : String} {k : Bool} (e : tyN h v = some a) (e2 : subTy a t = k) (q : R (.bl k)) : Wv (fIsi t h [v]) R := ⟨_, by simp only [fIsi, e, e2], q⟩
theorem wv_cat {zs : List MV} {x y : MV} (e1 : lstC h x = some xs) (e2 : lstC h y = some ys) (hz : xs.length + ys.length ≤ 16777216) (ez : xs ++ ys = zs) (q : R (.lst zs)) : Wv (opCat h x y) R := ⟨_, by
  have : xs.length + ys.length ≤ szLine := by unfold szLine; exact hz
  simp only [opCat, e1, e2, this, if_true, ez], q⟩
theorem wv_allB {bs : List Bool} (q : R (.bl (bs.all id))) : Wv (fAll h [.lst (bs.map .bl)]) R := ⟨_, by simp only [fAll, listOf, bools_of_map, Option.map_some], q⟩
end
end Ew
end

section
set_option linter.all false
set_option maxRecDepth 100000
/-! EwSC: more plain operations. -/
namespace Ew
open PySem (Str)
/-- int(x), x a truth or a number -/
def fInt (_ : MH) : List MV → Option MV
  | [.int i] => some (.int i)
  | [.bl b] => some (.int (if b then 1 else 0))
  | _ => none
/-- len(set(t)), a tuple of ints -/
def fLenSet (_ : MH) (v : MV) : Option MV := match tupV v with
  | some xs => match intsOf xs with
    | some ns => if ns.length < 64 then some (.int ((onceI ns).length : Nat)) else none
    | none => none
  | none => none
/-- xs.count(k), a list of ints -/
def opCount (_ : MH) (d y : MV) : Option MV := match lstV d, y with
  | some xs, .int k => (intsOf xs).map fun ns => .int (ns.count k : Nat)
  | _, _ => none
/-- xs.remove(k), a list of ints in a cell -/
def xRemove (o e : XE) : XE := fun s h => match o s h with
  | some (.ref n, h1) => if isLstC h1 n then match e s h1 with
    | some (.int k, h2) => match h2[n]? with
      | some (.lst xs) => match intsOf xs with
        | some ns => if k ∈ ns then some (.non, h2.set n (.lst ((ns.erase k).map .int))) else none
        | none => none
      | _ => none
    | _ => none
    else none
  | _ => none
section
variable {h : MH} {R : MV → Prop}
theorem wv_intB {b : Bool} (q : R (.int (if b then 1 else 0))) : Wv (fInt h [.bl b]) R := ⟨_, rfl, q⟩
theorem wv_intI {i : Int} (q : R (.int i)) : Wv (fInt h [.int i]) R := ⟨_, rfl, q⟩
theorem wv_lenSetR {r : List Int} (hl : r.length < 64) (q : R (.int ((onceI r).length : Nat))) : Wv (fLenSet h (.row (r.map .int))) R := ⟨_, by simp only [fLenSet, tupV, ints_of_map, hl, if_true], q⟩
theorem wv_countL {r : List Int} {k : Int} (q : R (.int (r.count k : Nat))) : Wv (opCount h (.lst (r.map .int)) (.int k)) R := ⟨_, by simp only [opCount, lstV, ints_of_map, Option.map_some], q⟩
theorem once_self : ∀ {ns : List Int}, ns.Nodup → onceI ns = ns
  | [], _ => rfl
  | x :: xs, nd => by
    have n := List.nodup_cons.mp nd
    rw [onceI, if_neg n.1, once_self n.2]
end
theorem we_remove {o e : XE} {s : SM} {h : MH} {R : MV → MH → Prop} (w : We (o s h) fun d h1 => ∃ n ys, d = .ref n ∧ h1[n]? = some (.lst ys) ∧ We (e s h1) fun v h2 => ∃ (ns : List Int) (k : Int), v = .int k ∧ h2[n]? = some (.lst (ns.map .int)) ∧ k ∈ ns ∧ R .non (h2.set n (.lst ((ns.erase k).map .int)))) : We (xRemove o e s h) R := by
  obtain ⟨d, h1, e1, n, ys, rfl, e2, v, h2, e3, ns, k, rfl, e4, hk, q⟩ := w
  exact ⟨_, _, by simp only [xRemove, e1, isLstC, e2, if_true, e3, e4, ints_of_map, hk], q⟩
/-- xs.count(k), a list of whatever -/
def atomC : MV → Bool
  | .non => true | .bl _ => true | .int _ => true | .str _ => true | .tup _ => true | .row _ => true | .lst _ => true | .dK _ => true
  | _ => false
def cntB (k : Int) : MV → Bool
  | .int i => i == k
  | .bl b => (if b then 1 else 0) == k
  | _ => false
def opCountV (_ : MH) (d y : MV) : Option MV := match lstV d, y with
  | some xs, .int k => if xs.all atomC then some (.int (xs.countP (cntB k) : Nat)) else none
  | _, _ => none
theorem wv_countV {h : MH} {R : MV → Prop} {xs : List MV} {k : Int} (ha : xs.all atomC = true) (q : R (.int (xs.countP (cntB k) : Nat))) : Wv (opCountV h (.lst xs) (.int k)) R := ⟨_, by simp only [opCountV, lstV, ha, if_true], q⟩
end Ew
end

section
set_option Elab.async false
set_option linter.all false
set_option maxRecDepth 100000
set_option maxHeartbeats 4000000
/-! EwCB: the bridge of EwSC. -/
namespace Ew
open PySem PySem.Spec PyProof.Rows L2
variable [Tabs]
section
variable {K : PySem.W.Frag} {X : Cx} {e a b c o i : Expr} {m ma mb mc mo mi : XE} {pos p p2 q : Pos} {es : List Expr} {mas : XA}
theorem me_intB (hm : X.mg "int" = none) (ha : MA X (e :: es) mas) (hg : Gl X "int" := by rfl) (he : starEach (e :: es) X.env = (false, eval e X.env) :: starEach es X.env := by rfl) (hpl : (backTo pos (starEach es X.env)).any (·.1) = false := by rfl) :
    ME X (.Call (.Name "int" p) (e :: es) [] pos) (xArgs fInt mas) := me_t call_int1 (fun r w h H xs v us Q R V e C => by
  unfold fInt at e
  split at e
  · obtain ⟨u, rfl, q⟩ := vrs1 V
    simp only [VR] at q
    subst q
    simp only [Option.some.injEq] at e; subst e
    exact .inl ⟨_, rfl, C.now R (by simp only [VR])⟩
  · obtain ⟨u, rfl, q⟩ := vrs1 V
    simp only [VR] at q
    subst q
    simp only [Option.some.injEq] at e; subst e
    exact .inr ⟨_, rfl, C.now R (by simp only [VR])⟩
  · cases e) (by first | rfl | decide +kernel) hm ha hg (by decide +kernel) (by decide +kernel) he hpl
/-! ### chains -/
section
variable {v : MV}
theorem lt_up : ∀ r w h H x y v u1 u2 (Q : VK), Rel X.K r w h H → VR X.K r w H x u1 → VR X.K r w H y u2 → opLt h x y = some v → Cont X.K r w h H v Q → (∃ i j, u1 = .int i ∧ u2 = .int j ∧ Q (.bl (decide (i < j))) H) := fun r w h H x y v u1 u2 Q R V1 V2 e C => by
  cases x <;> cases y <;> simp only [opLt, reduceCtorEq, Option.some.injEq] at e
  subst e
  simp only [VR] at V1 V2
  subst V1 V2
  exact ⟨_, _, rfl, rfl, C.now R (by simp only [VR])⟩
theorem le_up : ∀ r w h H x y v u1 u2 (Q : VK), Rel X.K r w h H → VR X.K r w H x u1 → VR X.K r w H y u2 → opLe h x y = some v → Cont X.K r w h H v Q → (∃ i j, u1 = .int i ∧ u2 = .int j ∧ Q (.bl (decide (i ≤ j))) H) := fun r w h H x y v u1 u2 Q R V1 V2 e C => by
  cases x <;> cases y <;> simp only [opLe, reduceCtorEq, Option.some.injEq] at e
  subst e
  simp only [VR] at V1 V2
  subst V1 V2
  exact ⟨_, _, rfl, rfl, C.now R (by simp only [VR])⟩
end
theorem c_lelt (ha : ME X a ma) (hb : ME X b mb) (hc : ME X c mc) (hm : lastMarks [CmpOp.LtE, CmpOp.Lt] [b, c] = false := by with_unfolding_all rfl) : ME X (.Compare a [.LtE, .Lt] [b, c] pos) (xChain opLe opLt ma mb mc) ∧ MT X (.Compare a [.LtE, .Lt] [b, c] pos) (xB (xChain opLe opLt ma mb mc)) :=
  c_chain op_le le_up op_lt lt_up ha hb hc hm
theorem c_ltlt (ha : ME X a ma) (hb : ME X b mb) (hc : ME X c mc) (hm : lastMarks [CmpOp.Lt, CmpOp.Lt] [b, c] = false := by with_unfolding_all rfl) : ME X (.Compare a [.Lt, .Lt] [b, c] pos) (xChain opLt opLt ma mb mc) ∧ MT X (.Compare a [.Lt, .Lt] [b, c] pos) (xB (xChain opLt opLt ma mb mc)) :=
  c_chain op_lt lt_up op_lt lt_up ha hb hc hm
theorem c_ltle (ha : ME X a ma) (hb : ME X b mb) (hc : ME X c mc) (hm : lastMarks [CmpOp.Lt, CmpOp.LtE] [b, c] = false := by with_unfolding_all rfl) : ME X (.Compare a [.Lt, .LtE] [b, c] pos) (xChain opLt opLe ma mb mc) ∧ MT X (.Compare a [.Lt, .LtE] [b, c] pos) (xB (xChain opLt opLe ma mb mc)) :=
  c_chain op_lt lt_up op_le le_up ha hb hc hm
/-! ### len(set(t)) -/
theorem pe_lenSetT {ta : TE} (hg : Gl X "len") (hm : X.mg "len" = none) (hg2 : Gl X "set") (hm2 : X.mg "set" = none) (ha : PE X a ta) (hc : X.calm = true)
    (na : starEach [a] X.env = (false, eval a X.env) :: starEach [] X.env) : PE X (.Call (.Name "len" p) [.Call (.Name "set" p2) [a] [] q] [] pos)
      (fun σ H Q => ta σ H fun x H1 => ∃ (l : Addr) (ns : List Int), x = .ref l ∧ SqT X.K H1 l (ns.map V.int) ∧ ns.length < 64 ∧ Q (.int ((onceI ns).length : Nat)) H1) := by
  refine ⟨fun pins s σ H Q I h => ?_⟩
  refine Call_ (ld_blt I hg hm boot_len ?_)
  refine PyProof.Rows.callWith_builtin1 (PyProof.Rows.args_cons ?_ rfl) rfl rfl
  refine Call_ (ld_blt I hg2 hm2 boot_set ?_)
  refine PyProof.Rows.callWith_type1 (PyProof.Rows.args_cons (thn (ha.run pins s σ H _ I h) fun v s1 ⟨x, H1, I1, r1, l, ns, ex, hq, hl, q1⟩ => PyProof.Rows.args_nil ?_) na) na rfl
  subst ex
  cases r1
  obtain ⟨its, r, pl, hz⟩ := I1.tuple hq
  refine call_set_tupI ns (I1.ok.hd hc) (show s1.heap.IsTuple l its.toArray from pl) (by simpa using r.ints) (by unfold scanBound; omega) fun h' tk c hS hcn hk => ?_
  refine PyProof.Rows.args_nil ?_
  obtain ⟨ob, es, ep, t, ho, hex, hd, _, nd, mem, _, hf, hn, _⟩ := hS
  have I2 : Inv X pins σ H1 { s1 with heap := h', toks := tk } := I1.kept hk
  have pm : (es.toList.map L2.keyOf).Perm (onceI ns) := (List.perm_ext_iff_of_nodup nd (once_nodup ns)).mpr fun k => by rw [← mem, once_mem]; simp
  have el : es.size = (onceI ns).length := by rw [← pm.length_eq]; simp
  refine call_len_set ho hex hd hf (by rw [hn] <;> omega) ⟨.int ((onceI ns).length : Nat), H1, I2.tok _, ⟨_, by rw [el]⟩, q1⟩
theorem me_lenSet (hm : X.mg "len" = none) (hm2 : X.mg "set" = none) (ha : ME X a ma) (hg : Gl X "len" := by rfl) (hg2 : Gl X "set" := by rfl) (hc : X.calm = true := by rfl) (na : starEach [a] X.env = (false, eval a X.env) :: starEach [] X.env := by rfl) :
    ME X (.Call (.Name "len" p) [.Call (.Name "set" p2) [a] [] q] [] pos) (xUn fLenSet ma) := PE.wk (pe_lenSetT hg hm hg2 hm2 ha hc na) fun z H Q ⟨r, w, s, h, v, h', R, S, e, C⟩ => by
  obtain ⟨x, e1, e2⟩ := xUn_at e
  refine ⟨r, w, s, h, x, h', R, S, e1, fun r1 u1 H1 F1 R1 V1 => ?_⟩
  unfold fLenSet at e2
  split at e2
  · rename_i xs ex
    split at e2
    · rename_i ns e3
      split at e2
      · rename_i hl
        simp only [Option.some.injEq] at e2
        subst e2
        cases x <;> simp only [tupV, reduceCtorEq, Option.some.injEq] at ex
        all_goals
          subst ex
          simp only [VR] at V1
          obtain ⟨a, us, rfl, t, q⟩ := V1
          have e5 := ints_of q e3
          subst e5
          exact ⟨a, ns, rfl, t.sq, hl, (C.fwd F1 R1).now R1 (by simp only [VR])⟩
      · cases e2
    · cases e2
  · cases e2
/-! ### xs.count(k) -/
theorem me_count {apos : Pos} (ho : ME X o mo) (he : ME X e m) (hbase : attributeBase o "count" X.env (eval o X.env) = eval o X.env := by rfl)
    (hfew : ((backTo pos (starEach [e] X.env)).all (fun x => !x.1) && (backToKw pos (keywordEach [] X.env)).all (fun x => x.1.isSome) && decide ([e].length + ([] : List Keyword).length + (if ([] : List Keyword).isEmpty then 0 else 1) < 30)) = true := by rfl)
    (hline : (apos.endLine == pos.line) = true := by rfl) (hs : starEach (e :: []) X.env = (false, eval e X.env) :: starEach [] X.env := by rfl) (hpl : (backTo pos (starEach [] X.env)).any (·.1) = false := by rfl) :
    ME X (.Call (.Attribute o "count" apos) [e] [] pos) (xOp opCount mo m) := PE.wk (pe_bm PySem.F.plainAttrs_list PySem.F.slot_list_count PySem.F.type_list_count mt_lcount ho (pa_cons he pa_nil hs) hbase hfew hline hs hpl) fun z H Q ⟨r, w, s, h, v, h', R, S, e, C⟩ => by
  obtain ⟨x, h1, y, e1, e2, e3⟩ := xOp_at e
  unfold opCount at e3
  split at e3
  · rename_i xs k e4
    cases e5 : intsOf xs with
    | none => rw [e5] at e3; cases e3
    | some ns =>
      rw [e5] at e3
      simp only [Option.map_some, Option.some.injEq] at e3
      subst e3
      refine ⟨r, w, s, h, x, h1, R, S, e1, fun r1 u1 H1 F1 R1 V1 => ?_⟩
      cases x <;> simp only [lstV, reduceCtorEq, Option.some.injEq] at e4
      rename_i ys
      subst e4
      have V1' := V1
      simp only [VR] at V1'
      obtain ⟨p, us, rfl, _, t, q⟩ := V1'
      refine ⟨.inl ⟨rfl, us, SqL.of t⟩, r1, w, s, h1, _, h', R1, S.fwd F1, e2, fun r2 u2 H2 F2 R2 V2 => ?_⟩
      have V3 := VR.fwd F2 _ _ V1
      simp only [VR] at V2 V3
      subst V2
      obtain ⟨p', us', e6, _, t', q'⟩ := V3
      cases e6
      have e7 := ints_of q' e5
      subst e7
      exact ⟨p, ns, k, rfl, rfl, SqL.of t', ((C.fwd F1 R1).fwd F2 R2).now R2 (by simp only [VR])⟩
  · cases e3
/-! ### xs.remove(k) -/
theorem me_remove {apos : Pos} (ho : ME X o mo) (he : ME X e m) (hbase : attributeBase o "remove" X.env (eval o X.env) = eval o X.env := by rfl)
    (hfew : ((backTo pos (starEach [e] X.env)).all (fun x => !x.1) && (backToKw pos (keywordEach [] X.env)).all (fun x => x.1.isSome) && decide ([e].length + ([] : List Keyword).length + (if ([] : List Keyword).isEmpty then 0 else 1) < 30)) = true := by rfl)
    (hline : (apos.endLine == pos.line) = true := by rfl) (hs : starEach (e :: []) X.env = (false, eval e X.env) :: starEach [] X.env := by rfl) (hpl : (backTo pos (starEach [] X.env)).any (·.1) = false := by rfl) :
    ME X (.Call (.Attribute o "remove" apos) [e] [] pos) (xRemove mo m) := PE.wk (pe_bm PySem.F.plainAttrs_list PySem.F.slot_list_remove PySem.F.type_list_remove mt_remove ho (pa_cons he pa_nil hs) hbase hfew hline hs hpl) fun z H Q ⟨r, w, s, h, v, h', R, S, e, C⟩ => by
  unfold xRemove at e
  split at e
  · rename_i n h1 e1
    split at e
    · rename_i hL
      split at e
      · rename_i k h2 e2
        split at e
        · rename_i xs e3
          split at e
          · rename_i ns e4
            split at e
            · rename_i hk
              simp only [Option.some.injEq, Prod.mk.injEq] at e
              obtain ⟨rfl, rfl⟩ := e
              refine ⟨r, w, s, h, _, h1, R, S, e1, fun r1 u1 H1 F1 R1 V1 => ?_⟩
              obtain ⟨a, us0, rfl, hL1⟩ := lst_here R1 V1 hL
              refine ⟨.inl ⟨rfl, _, SqL.of hL1⟩, r1, w, s, h1, _, h2, R1, S.fwd F1, e2, fun r2 u2 H2 F2 R2 V2 => ?_⟩
              obtain ⟨a', us, e5, hn2, ha, q⟩ := ref_at R2 (VR.fwd F2 _ _ V1) e3
              cases e5
              simp only [VR] at V2
              subst V2
              have e7 := ints_of q e4
              subst e7
              have lt := List.idxOf_lt_length_of_mem hk
              refine ⟨a, ns, k, ns.idxOf k, rfl, rfl, ha, by rw [List.getElem?_eq_getElem lt, List.getElem_idxOf], fun m hm hz => ?_, ?_⟩
              · obtain ⟨hm2, e8⟩ := List.getElem?_eq_some_iff.mp hz
                have := List.not_of_lt_findIdx (p := fun y => y == k) (xs := ns) (i := m) hm
                rw [e8] at this
                simp at this
              · rw [← List.erase_eq_eraseIdx_of_idxOf rfl]
                exact put_lst R2 hn2 (VRs.ints _) (by simp only [VR]) ((C.fwd F1 R1).fwd F2 R2) (fun _ _ z => by rw [ha] at z; cases z)
            · cases e
          · cases e
        · cases e
      · cases e
    · cases e
  · cases e
end
end Ew
end

section
set_option Elab.async false
set_option linter.all false
set_option maxRecDepth 100000
set_option maxHeartbeats 4000000
/-! EwQK: a dict against a number; count in a list of any things. -/
namespace PySem.SeqAt
open PySem PySem.Spec PyProof.Rows

section
variable {prog : Program} {w : World} {A : Around} {E : Value → Shared → Prop} {s : Shared}
theorem ew_dict_declines {d : Addr} {v : Value} {T : String} (hd : s.TypeIs (.ref d) "dict") (hv : s.TypeIs v T) (hs : isSubtype (.type T) (.type "dict") = pure false) {Q : Value → Shared → Prop} (hq : Q .notImplemented s) :
    wpAny (model prog w) A (call (.builtin "dict.__eq__") [.ref d, v]) Q E s := by
  refine wpAny_call_entry F.slot_dict_eq hd F.entry_dict_eq ?_ (F.args_dict_eq_2 _ _)
  show wpAny _ _ (Builtin.Dict.dictSlotArgs "__eq__" ⟨[.ref d, v], []⟩ >>= _) _ _ s
  refine wpAny_bind ?_
  unfold Builtin.Dict.dictSlotArgs
  refine wpAny_bind (wpAny_notOrdered_dict hd ?_)
  show wpAny _ _ (pure (Value.ref d, v)) _ _ s
  refine wpAny_pure ?_
  refine wpAny_bind (wpAny_isInstance (T := T) hv hs ?_)
  simp only [Bool.not_false, if_true]
  refine wpAny_bind (wpAny_rule ?_)
  exact wpAny_pure ⟨_, rfl, hq⟩
theorem ew_int_declines_dict (b : Int) (u : Tok) (l : Addr) (es : Array DictEntry) (ep : Nat) (dd : Option Addr) (sl : Array (Option Value)) :
    Meets (Builtin.«int.__eq__» ⟨[.int b u, .ref l], []⟩) (fun _ R s => s.heap.get? l = some { cls := .type "dict", dict := dd, data := .dict es ep, slots := sl } ∧ R (.ok (.ret .notImplemented)) s) :=
  .of_wp fun prog w A R s h => by obtain ⟨hp, g, d, tk, os⟩ := s; obtain ⟨hl, h⟩ := h; wp_walk using PySem.AutoSeq1.wpAny_loadPart' hl, wpAny_load hl; exact ⟨_, rfl, h⟩
theorem RcAt.dict_int {d : Addr} {es : Array DictEntry} {ep : Nat} {dd : Option Addr} {sl : Array (Option Value)} (b : Int) (u : Tok) (hl : s.heap.get? d = some { cls := .type "dict", dict := dd, data := .dict es ep, slots := sl }) (hu : A.units < cLine) : RcAt A s (.ref d) (.int b u) false := fun prog w E Q h => by
  exact rc_eq_decline_or (k := false) ⟨_, hl, rfl⟩ (typeIs_int s b u) (by decide) F.sub_int_dict F.slot_dict_eq F.slot_int_eq_refl
    (fun _ hq => ew_dict_declines ⟨_, hl, rfl⟩ (typeIs_int s b u) F.sub_int_dict hq)
    (fun _ hq => call_meets F.slot_int_eq_refl (typeIs_int s b u) F.entry_int_eq (F.args_int_eq_2 _ _) (ew_int_declines_dict b u d es ep dd sl) ⟨hl, hq⟩)
    (fun _ hq => wpAny_of_eq (rfl : isSame (.ref d) (.int b u) = pure false) hq) (.inr hu) h
theorem EqAt.dict_int {d : Addr} {es : Array DictEntry} {ep : Nat} {dd : Option Addr} {sl : Array (Option Value)} (b : Int) (u : Tok) (hl : s.heap.get? d = some { cls := .type "dict", dict := dd, data := .dict es ep, slots := sl }) (hu : A.units < cLine) : EqAt A s (.ref d) (.int b u) false := fun prog w E Q h => by
  unfold eqBool
  refine wpAny_holding ?_
  refine wpAny_ite_split (fun hab => absurd (eq_of_beq hab) nofun) (fun _ => ?_)
  exact wpAny_bind (RcAt.dict_int b u hl hu prog w E _ (wpAny_truthy_bool h))
end
end PySem.SeqAt
namespace Ew
open PySem PySem.Spec PyProof.Rows L2
variable [Tabs]
def cntV (k : Int) : V → Bool
  | .int i => i == k
  | .bl b => (if b then 1 else 0) == k
  | _ => false
def cntE (k : Int) : Value → Bool
  | .int i _ => i == k
  | .bool b => (if b then 1 else 0) == k
  | _ => false
def KindV (K : PySem.W.Frag) (H : Hp) : V → Prop
  | .non => True | .bl _ => True | .int _ => True | .str _ => True
  | .ref a => (∃ us, SqT K H a us) ∨ (∃ us, SqL K H a us) ∨ ∃ ks, Rd H a (.dK ks)
  | _ => False
def rCntV (K : PySem.W.Frag) : V → List V → Hp → VK → Prop := fun x xs H Q => ∃ (p : Addr) (vs : List V) (k : Int), x = .ref p ∧ xs = [.int k] ∧ SqL K H p vs ∧ (∀ v ∈ vs, KindV K H v) ∧ Q (.int (vs.countP (cntV k) : Nat)) H
theorem cnt_rel {k : Int} {v : V} {u : Value} (r : L2.RelV v u) : cntE k u = cntV k v := by
  cases v <;> simp only [L2.RelV] at r
  case non => subst r; rfl
  case bl => subst r; rfl
  case int => obtain ⟨t, rfl⟩ := r; rfl
  case str => obtain ⟨t, rfl⟩ := r; rfl
  case byt => obtain ⟨t, rfl⟩ := r; rfl
  case flt => obtain ⟨t, rfl⟩ := r; rfl
  case ref => subst r; rfl
  case ty => subst r; rfl
theorem cnt_all {k : Int} : ∀ {vs : List V} {us : List Value}, Vals vs us → us.countP (cntE k) = vs.countP (cntV k)
  | [], us, r => by cases r; rfl
  | v :: vs, us, r => by
    cases r with
    | cons a b => rw [List.countP_cons, List.countP_cons, cnt_all b, cnt_rel a]
section
variable {X : Cx}
theorem cnt_eq {pins : List (Addr × Obj)} {σ : L2.St} {H : Hp} {s : Shared} (I : Inv X pins σ H s) {A : Around} (hu : A.units < cLine) (k : Int) (t : Tok) {v : V} {u : Value} (hv : KindV X.K H v) (r : L2.RelV v u) : SeqAt.EqAt A s u (.int k t) (cntE k u) := by
  cases v <;> simp only [KindV] at hv <;> simp only [L2.RelV] at r
  case non => subst r; exact SeqAt.EqAt.none_int k t
  case bl => subst r; exact SeqAt.EqAt.bool_int _ k t
  case int => obtain ⟨t', rfl⟩ := r; exact SeqAt.EqAt.int_int _ _ k t
  case str => obtain ⟨t', rfl⟩ := r; exact SeqAt.EqAt.str_int _ _ k t
  case ref a =>
    subst r
    rcases hv with ⟨us, h⟩ | ⟨us, h⟩ | ⟨ks, h⟩
    · obtain ⟨its, _, p, _⟩ := I.tuple h
      exact SeqAt.EqAt.tuple_int k t p hu
    · obtain ⟨its, _, p, _⟩ := I.list h
      exact SeqAt.EqAt.list_int k t p.isList hu
    · obtain ⟨_, _, va, ra, da⟩ := dk_rd I.hok h
      obtain ⟨⟨cls, dd, data, sl⟩, es, ep, ho, hc, hdat, _⟩ := da
      have hc := hc.1
      simp only at hc hdat
      subst hc hdat
      exact SeqAt.EqAt.dict_int k t ho hu
theorem mt_lcountV (hu : X.A.in1.units < cLine) : MtR X "list.count" (rCntV X.K) := by
  intro pins s σ H x xs v us Q I rx rxs h
  obtain ⟨p, vs, k, rfl, rfl, hs, hk, q⟩ := h
  cases rx
  obtain ⟨u, rfl, ru⟩ := rxs.one
  obtain ⟨t, rfl⟩ := ru
  obtain ⟨its, rv, ⟨⟨cls, dd, data, sl⟩, n, ho, hc, hdn, hd⟩, hlen⟩ := I.list hs
  simp only at hc hd
  subst hc hd
  refine call_meets PySem.F.slot_list_count ⟨_, ho, rfl⟩ PySem.F.entry_list_count (PySem.F.args_list_count_2 _ _)
    (SeqAt.list_countAt p its.toArray n dd sl (.int k t) (cntE k)) ⟨ho, fun y hy => ?_, ?_⟩
  · have hy : y ∈ its := by simpa using hy
    obtain ⟨i, hi, e⟩ := List.getElem_of_mem hy
    have li : i < vs.length := by rw [rv.length]; exact hi
    obtain ⟨u, eu, ru⟩ := rv.get (List.getElem?_eq_getElem li)
    rw [List.getElem?_eq_getElem hi, e] at eu
    cases eu
    exact cnt_eq I hu k t (hk _ (List.getElem_mem li)) ru
  refine ⟨.int (vs.countP (cntV k) : Nat), H, I.tok _, ⟨s.toks, ?_⟩, q⟩
  show Value.int ((its.toArray.toList.countP (cntE k) : Nat) : Int) s.toks = Value.int ((vs.countP (cntV k) : Nat) : Int) s.toks
  rw [show its.toArray.toList = its from rfl, cnt_all rv]
end
theorem atom_kind {K : PySem.W.Frag} {r w : List Addr} {H : Hp} {x : MV} {v : V} (h : atomC x = true) (q : VR K r w H x v) : KindV K H v ∧ ∀ k, cntV k v = cntB k x := by
  cases x <;> simp only [atomC, reduceCtorEq] at h <;> simp only [VR] at q
  · subst q; exact ⟨trivial, fun _ => rfl⟩
  · subst q; exact ⟨trivial, fun _ => rfl⟩
  · subst q; exact ⟨trivial, fun _ => rfl⟩
  · subst q; exact ⟨trivial, fun _ => rfl⟩
  · obtain ⟨a, us, rfl, t, _⟩ := q
    exact ⟨.inl ⟨us, t.sq⟩, fun _ => rfl⟩
  · obtain ⟨a, us, rfl, _, t, _⟩ := q
    exact ⟨.inr (.inl ⟨us, SqL.of t⟩), fun _ => rfl⟩
  · obtain ⟨a, us, rfl, _, t, _⟩ := q
    exact ⟨.inr (.inr ⟨us, t⟩), fun _ => rfl⟩
  · obtain ⟨a, us, rfl, t, _⟩ := q
    exact ⟨.inl ⟨us, t.sq⟩, fun _ => rfl⟩
theorem atoms_kind {K : PySem.W.Frag} {r w : List Addr} {H : Hp} (k : Int) : ∀ {xs : List MV} {vs : List V}, xs.all atomC = true → VRs K r w H xs vs → (∀ v ∈ vs, KindV K H v) ∧ vs.countP (cntV k) = xs.countP (cntB k)
  | [], vs, _, q => by
    simp only [VRs] at q
    subst q
    exact ⟨(fun _ h => nomatch h), rfl⟩
  | x :: xs, vs, h, q => by
    simp only [VRs] at q
    obtain ⟨u, t, rfl, q1, q2⟩ := q
    rw [List.all_cons, Bool.and_eq_true] at h
    obtain ⟨a, b⟩ := atom_kind h.1 q1
    obtain ⟨c, d⟩ := atoms_kind k h.2 q2
    refine ⟨fun v hv => ?_, by rw [List.countP_cons, List.countP_cons, d, b k]⟩
    rcases List.mem_cons.mp hv with rfl | hv
    · exact a
    · exact c v hv
section
variable {X : Cx} {e o : Expr} {m mo : XE} {pos : Pos}
theorem me_countV {k : Nat} {apos : Pos} (hr : Room k X.A) (ho : ME X o mo) (he : ME X e m) (hbase : attributeBase o "count" X.env (eval o X.env) = eval o X.env := by rfl)
    (hfew : ((backTo pos (starEach [e] X.env)).all (fun x => !x.1) && (backToKw pos (keywordEach [] X.env)).all (fun x => x.1.isSome) && decide ([e].length + ([] : List Keyword).length + (if ([] : List Keyword).isEmpty then 0 else 1) < 30)) = true := by rfl)
    (hline : (apos.endLine == pos.line) = true := by rfl) (hs : starEach (e :: []) X.env = (false, eval e X.env) :: starEach [] X.env := by rfl) (hpl : (backTo pos (starEach [] X.env)).any (·.1) = false := by rfl) :
    ME X (.Call (.Attribute o "count" apos) [e] [] pos) (xOp opCountV mo m) := PE.wk (pe_bm PySem.F.plainAttrs_list PySem.F.slot_list_count PySem.F.type_list_count (mt_lcountV (by have := Room.u2 hr; have : X.A.in1.in1.units = X.A.in1.units + 1 := rfl; omega)) ho (pa_cons he pa_nil hs) hbase hfew hline hs hpl) fun z H Q ⟨r, w, s, h, v, h', R, S, e, C⟩ => by
  obtain ⟨x, h1, y, e1, e2, e3⟩ := xOp_at e
  unfold opCountV at e3
  split at e3
  · rename_i xs k e4
    split at e3
    · rename_i ha
      simp only [Option.some.injEq] at e3
      subst e3
      refine ⟨r, w, s, h, x, h1, R, S, e1, fun r1 u1 H1 F1 R1 V1 => ?_⟩
      cases x <;> simp only [lstV, reduceCtorEq, Option.some.injEq] at e4
      rename_i ys
      subst e4
      have V1' := V1
      simp only [VR] at V1'
      obtain ⟨p, us, rfl, _, t, q⟩ := V1'
      refine ⟨.inl ⟨rfl, us, SqL.of t⟩, r1, w, s, h1, _, h', R1, S.fwd F1, e2, fun r2 u2 H2 F2 R2 V2 => ?_⟩
      have V3 := VR.fwd F2 _ _ V1
      simp only [VR] at V2 V3
      subst V2
      obtain ⟨p', us', e6, _, t', q'⟩ := V3
      cases e6
      obtain ⟨b1, b2⟩ := atoms_kind k ha q'
      refine ⟨p, us', k, rfl, rfl, SqL.of t', b1, ?_⟩
      rw [b2]
      exact ((C.fwd F1 R1).fwd F2 R2).now R2 (by simp only [VR])
    · cases e3
  · cases e3
end
end Ew
end

section
set_option linter.all false
set_option maxRecDepth 100000
/-! the plain part of law_k27_rings_or_not -/
namespace Ew
open PySem (Str)
local macro_rules
  | `(tactic| simp only [ews]) => `(tactic| simp only [sSeq, sAsg, sIf, sRet, sRetN, sExpr, sNext, sPar, sPar3, sBk, sCt, sFor, sPut, gNm, gTp, gsCons, gsNil, xVar, xC, xOp, xUn, xCons, xNil, xArgs, xCall, xTup, xLst, xBox, boxM, xIf, xAnd, xOr, xNot, xB, xAndT, xOrT, xNotT, xAppend, xPop, xPopAt, xExtend, xExtendT, xSlL, xPart, xNoPart, iSeq, iRange1, iRange2, cYes, seqOf, listOf, isLstC, runDef, sBegin, List.map_cons, List.map_nil, List.length_cons, List.length_nil, List.getElem?_cons_zero, List.getElem?_cons_succ, List.getElem?_nil, List.set_cons_zero, List.set_cons_succ, List.cons_append, List.nil_append, List.append_nil, Nat.sub_self, Nat.zero_add, Nat.reduceAdd, Nat.reduceSub, Nat.add_one_sub_one, List.replicate_zero, List.replicate_succ, Option.map_some, if_true, if_false, decide_true, decide_false, Bool.not_true, Bool.not_false, Bool.true_or, Bool.false_or, Bool.or_true, Bool.or_false, Bool.true_and, Bool.false_and, Bool.and_true, Bool.and_false, beq_self_eq_true, opAdd, opSub, opNeg, opLt, opLe, opGt, opGe, opIx, fLen, fAbs, fMax2, fMin2, fIsi, tyN, fList, fTuple, fDictP, opCat, opCatT, lstC, fKeys, fKeysS, fSorted, xPairs, xDisp, xUpdate, sForK, gLp, fKeysT, opRevT, iEnumT, keyOf, keyV, opIsBl, opNotBl, dictK, st_NoneType_bool, st_NoneType_int, st_NoneType_str, st_NoneType_tuple, st_NoneType_list, st_NoneType_dict, st_bool_bool, st_bool_int, st_bool_str, st_bool_tuple, st_bool_list, st_bool_dict, st_int_bool, st_int_int, st_int_str, st_int_tuple, st_int_list, st_int_dict, st_str_bool, st_str_int, st_str_str, st_str_tuple, st_str_list, st_str_dict, st_tuple_bool, st_tuple_int, st_tuple_str, st_tuple_tuple, st_tuple_list, st_tuple_dict, st_list_bool, st_list_int, st_list_str, st_list_tuple, st_list_list, st_list_dict, st_dict_bool, st_dict_int, st_dict_str, st_dict_tuple, st_dict_list, st_dict_dict])
  | `(tactic| simp only [ews, $ts,*]) => `(tactic| simp only [sSeq, sAsg, sIf, sRet, sRetN, sExpr, sNext, sPar, sPar3, sBk, sCt, sFor, sPut, gNm, gTp, gsCons, gsNil, xVar, xC, xOp, xUn, xCons, xNil, xArgs, xCall, xTup, xLst, xBox, boxM, xIf, xAnd, xOr, xNot, xB, xAndT, xOrT, xNotT, xAppend, xPop, xPopAt, xExtend, xExtendT, xSlL, xPart, xNoPart, iSeq, iRange1, iRange2, cYes, seqOf, listOf, isLstC, runDef, sBegin, List.map_cons, List.map_nil, List.length_cons, List.length_nil, List.getElem?_cons_zero, List.getElem?_cons_succ, List.getElem?_nil, List.set_cons_zero, List.set_cons_succ, List.cons_append, List.nil_append, List.append_nil, Nat.sub_self, Nat.zero_add, Nat.reduceAdd, Nat.reduceSub, Nat.add_one_sub_one, List.replicate_zero, List.replicate_succ, Option.map_some, if_true, if_false, decide_true, decide_false, Bool.not_true, Bool.not_false, Bool.true_or, Bool.false_or, Bool.or_true, Bool.or_false, Bool.true_and, Bool.false_and, Bool.and_true, Bool.and_false, beq_self_eq_true, opAdd, opSub, opNeg, opLt, opLe, opGt, opGe, opIx, fLen, fAbs, fMax2, fMin2, fIsi, tyN, fList, fTuple, fDictP, opCat, opCatT, lstC, fKeys, fKeysS, fSorted, xPairs, xDisp, xUpdate, sForK, gLp, fKeysT, opRevT, iEnumT, keyOf, keyV, opIsBl, opNotBl, dictK, st_NoneType_bool, st_NoneType_int, st_NoneType_str, st_NoneType_tuple, st_NoneType_list, st_NoneType_dict, st_bool_bool, st_bool_int, st_bool_str, st_bool_tuple, st_bool_list, st_bool_dict, st_int_bool, st_int_int, st_int_str, st_int_tuple, st_int_list, st_int_dict, st_str_bool, st_str_int, st_str_str, st_str_tuple, st_str_list, st_str_dict, st_tuple_bool, st_tuple_int, st_tuple_str, st_tuple_tuple, st_tuple_list, st_tuple_dict, st_list_bool, st_list_int, st_list_str, st_list_tuple, st_list_list, st_list_dict, st_dict_bool, st_dict_int, st_dict_str, st_dict_tuple, st_dict_list, st_dict_dict, $ts,*])
local macro_rules
  | `(tactic| simp only [ewd]) => `(tactic| simp only [sSeq, sAsg, sIf, sRet, sRetN, sExpr, sNext, sPar, sPar3, sBk, sCt, sFor, sPut, gNm, gTp, gsCons, gsNil, xVar, xC, xOp, xUn, xCons, xNil, xArgs, xCall, xTup, xLst, xBox, boxM, xIf, xAnd, xOr, xNot, xB, xAndT, xOrT, xNotT, xAppend, xPop, xPopAt, xExtend, xExtendT, xSlL, xPart, xNoPart, iSeq, iRange1, iRange2, cYes, seqOf, listOf, isLstC, runDef, sBegin, List.map_cons, List.map_nil, List.length_cons, List.length_nil, List.getElem?_cons_zero, List.getElem?_cons_succ, List.getElem?_nil, List.set_cons_zero, List.set_cons_succ, List.cons_append, List.nil_append, List.append_nil, Nat.sub_self, Nat.zero_add, Nat.reduceAdd, Nat.reduceSub, Nat.add_one_sub_one, List.replicate_zero, List.replicate_succ, Option.map_some, if_true, if_false, decide_true, decide_false, Bool.not_true, Bool.not_false, Bool.true_or, Bool.false_or, Bool.or_true, Bool.or_false, Bool.true_and, Bool.false_and, Bool.and_true, Bool.and_false, beq_self_eq_true, opAdd, opSub, opNeg, opLt, opLe, opGt, opGe, fLen, fAbs, fMax2, fMin2, fIsi, tyN, fList, fTuple, fDictP, opCat, opCatT, lstC, fKeys, fKeysS, fSorted, xPairs, xDisp, xUpdate, sForK, gLp, fKeysT, opRevT, iEnumT, keyOf, keyV, opIsBl, opNotBl, dictK, st_NoneType_bool, st_NoneType_int, st_NoneType_str, st_NoneType_tuple, st_NoneType_list, st_NoneType_dict, st_bool_bool, st_bool_int, st_bool_str, st_bool_tuple, st_bool_list, st_bool_dict, st_int_bool, st_int_int, st_int_str, st_int_tuple, st_int_list, st_int_dict, st_str_bool, st_str_int, st_str_str, st_str_tuple, st_str_list, st_str_dict, st_tuple_bool, st_tuple_int, st_tuple_str, st_tuple_tuple, st_tuple_list, st_tuple_dict, st_list_bool, st_list_int, st_list_str, st_list_tuple, st_list_list, st_list_dict, st_dict_bool, st_dict_int, st_dict_str, st_dict_tuple, st_dict_list, st_dict_dict])
  | `(tactic| simp only [ewd, $ts,*]) => `(tactic| simp only [sSeq, sAsg, sIf, sRet, sRetN, sExpr, sNext, sPar, sPar3, sBk, sCt, sFor, sPut, gNm, gTp, gsCons, gsNil, xVar, xC, xOp, xUn, xCons, xNil, xArgs, xCall, xTup, xLst, xBox, boxM, xIf, xAnd, xOr, xNot, xB, xAndT, xOrT, xNotT, xAppend, xPop, xPopAt, xExtend, xExtendT, xSlL, xPart, xNoPart, iSeq, iRange1, iRange2, cYes, seqOf, listOf, isLstC, runDef, sBegin, List.map_cons, List.map_nil, List.length_cons, List.length_nil, List.getElem?_cons_zero, List.getElem?_cons_succ, List.getElem?_nil, List.set_cons_zero, List.set_cons_succ, List.cons_append, List.nil_append, List.append_nil, Nat.sub_self, Nat.zero_add, Nat.reduceAdd, Nat.reduceSub, Nat.add_one_sub_one, List.replicate_zero, List.replicate_succ, Option.map_some, if_true, if_false, decide_true, decide_false, Bool.not_true, Bool.not_false, Bool.true_or, Bool.false_or, Bool.or_true, Bool.or_false, Bool.true_and, Bool.false_and, Bool.and_true, Bool.and_false, beq_self_eq_true, opAdd, opSub, opNeg, opLt, opLe, opGt, opGe, fLen, fAbs, fMax2, fMin2, fIsi, tyN, fList, fTuple, fDictP, opCat, opCatT, lstC, fKeys, fKeysS, fSorted, xPairs, xDisp, xUpdate, sForK, gLp, fKeysT, opRevT, iEnumT, keyOf, keyV, opIsBl, opNotBl, dictK, st_NoneType_bool, st_NoneType_int, st_NoneType_str, st_NoneType_tuple, st_NoneType_list, st_NoneType_dict, st_bool_bool, st_bool_int, st_bool_str, st_bool_tuple, st_bool_list, st_bool_dict, st_int_bool, st_int_int, st_int_str, st_int_tuple, st_int_list, st_int_dict, st_str_bool, st_str_int, st_str_str, st_str_tuple, st_str_list, st_str_dict, st_tuple_bool, st_tuple_int, st_tuple_str, st_tuple_tuple, st_tuple_list, st_tuple_dict, st_list_bool, st_list_int, st_list_str, st_list_tuple, st_list_list, st_list_dict, st_dict_bool, st_dict_int, st_dict_str, st_dict_tuple, st_dict_list, st_dict_dict, $ts,*])
local macro_rules
  | `(tactic| simp only [ewc]) => `(tactic| simp only [sSeq, sAsg, sIf, sRet, sRetN, sExpr, sNext, sPar, sPar3, sBk, sCt, sFor, sPut, gNm, gTp, gsCons, gsNil, xVar, xC, xOp, xUn, xCons, xNil, xArgs, xCall, xTup, xLst, xBox, boxM, xIf, xAnd, xOr, xNot, xB, xAndT, xOrT, xNotT, xAppend, xPop, xPopAt, xExtend, xExtendT, xSlL, xPart, xNoPart, iSeq, iRange1, iRange2, cYes, seqOf, listOf, isLstC, runDef, sBegin, List.map_cons, List.map_nil, List.length_cons, List.length_nil, List.getElem?_cons_zero, List.getElem?_cons_succ, List.getElem?_nil, List.set_cons_zero, List.set_cons_succ, List.cons_append, List.nil_append, List.append_nil, Nat.sub_self, Nat.zero_add, Nat.reduceAdd, Nat.reduceSub, Nat.add_one_sub_one, List.replicate_zero, List.replicate_succ, Option.map_some, if_true, if_false, decide_true, decide_false, Bool.not_true, Bool.not_false, Bool.true_or, Bool.false_or, Bool.or_true, Bool.or_false, Bool.true_and, Bool.false_and, Bool.and_true, Bool.and_false, beq_self_eq_true])
  | `(tactic| simp only [ewc, $ts,*]) => `(tactic| simp only [sSeq, sAsg, sIf, sRet, sRetN, sExpr, sNext, sPar, sPar3, sBk, sCt, sFor, sPut, gNm, gTp, gsCons, gsNil, xVar, xC, xOp, xUn, xCons, xNil, xArgs, xCall, xTup, xLst, xBox, boxM, xIf, xAnd, xOr, xNot, xB, xAndT, xOrT, xNotT, xAppend, xPop, xPopAt, xExtend, xExtendT, xSlL, xPart, xNoPart, iSeq, iRange1, iRange2, cYes, seqOf, listOf, isLstC, runDef, sBegin, List.map_cons, List.map_nil, List.length_cons, List.length_nil, List.getElem?_cons_zero, List.getElem?_cons_succ, List.getElem?_nil, List.set_cons_zero, List.set_cons_succ, List.cons_append, List.nil_append, List.append_nil, Nat.sub_self, Nat.zero_add, Nat.reduceAdd, Nat.reduceSub, Nat.add_one_sub_one, List.replicate_zero, List.replicate_succ, Option.map_some, if_true, if_false, decide_true, decide_false, Bool.not_true, Bool.not_false, Bool.true_or, Bool.false_or, Bool.or_true, Bool.or_false, Bool.true_and, Bool.false_and, Bool.and_true, Bool.and_false, beq_self_eq_true, $ts,*])
local macro_rules
  | `(tactic| show wp1) => `(tactic| first | (with_reducible apply wp_seq) | (with_reducible apply kS_nx) | (with_reducible apply kS_rt) | (with_reducible apply kS_bk) | (with_reducible apply kS_ct) | (with_reducible apply wp_asg) | (with_reducible apply wp_expr) | (with_reducible apply wp_if) | (with_reducible apply wp_ret) | (with_reducible apply wp_retN) | (with_reducible apply wp_next) | (with_reducible apply wp_bk) | (with_reducible apply wp_ct) | (with_reducible apply wp_put) | (with_reducible apply wp_par) | (with_reducible apply wp_par3) | (with_reducible apply wp_for) | ((with_reducible apply wg_nm'); (focus (simp only [List.set_cons_zero, List.set_cons_succ]; first | done | rfl))) | (with_reducible apply wg_cons) | (with_reducible apply wg_nil) | (with_reducible apply we_c) | (with_reducible apply we_op) | (with_reducible apply we_call) | (with_reducible apply wa_cons) | (with_reducible apply wa_nil) | (with_reducible apply we_args) | (with_reducible apply we_un) | (with_reducible apply we_tup) | (with_reducible apply we_tupR) | (with_reducible apply we_lst) | (with_reducible apply we_box) | (with_reducible apply we_boxl) | (with_reducible apply we_boxk) | (with_reducible apply we_boxt) | (with_reducible apply we_if) | (with_reducible apply we_and) | (with_reducible apply we_or) | (with_reducible apply we_not) | (with_reducible apply we_chain) | (with_reducible apply wt_b) | (with_reducible apply wt_and) | (with_reducible apply wt_or) | (with_reducible apply wt_not) | (with_reducible apply wt_yes) | (with_reducible apply kV_bl) | (with_reducible apply kB_t) | (with_reducible apply kB_f) | (with_reducible apply kB_nt) | (with_reducible apply kB_nf) | (with_reducible apply kB_tt) | (with_reducible apply kB_ff) | (with_reducible apply kB_tf) | (with_reducible apply kB_ft) | (with_reducible apply kB_ntt) | (with_reducible apply kB_nff) | (with_reducible apply kB_ntf) | (with_reducible apply kB_nft) | (with_reducible apply kR_rt) | (with_reducible apply kR_nx) | (with_reducible apply wi_seq) | (with_reducible apply kI_row) | (with_reducible apply kI_tup) | (with_reducible apply kI_lst) | (with_reducible apply wi_rng1) | (with_reducible apply wi_rng2) | (with_reducible apply wi_enumT) | (with_reducible apply wi_rev) | (with_reducible apply kRv_lst) | (with_reducible apply kRv_tup) | (with_reducible apply kRv_row) | (with_reducible apply wv_revL) | (with_reducible apply wi_zipL) | (with_reducible apply wg_pair) | (with_reducible apply wi_enumL) | (with_reducible apply kE_tup) | (with_reducible apply kL_lst) | (with_reducible apply kF_vals) | (with_reducible apply kF_cell) | ((with_reducible apply we_lc'); (focus (simp only [wipeM, List.set_cons_zero, List.set_cons_succ]; first | done | rfl))) | (with_reducible apply kC_vals) | (with_reducible apply kC_cell) | (with_reducible apply wo_none) | (with_reducible apply wo_part) | (with_reducible apply kP_int) | (with_reducible apply we_slL) | (with_reducible apply wv_add) | (with_reducible apply wv_sub) | (with_reducible apply wv_neg) | (with_reducible apply wv_lt) | (with_reducible apply wv_le) | (with_reducible apply wv_gt) | (with_reducible apply wv_ge) | (with_reducible apply wv_eqii) | (with_reducible apply wv_neii) | (with_reducible apply wv_isbl) | (with_reducible apply wv_notbl) | (with_reducible apply wv_lenL) | (with_reducible apply wv_lenT) | (with_reducible apply wv_lenR) | (with_reducible apply wv_lenK) | (with_reducible apply wv_abs) | (with_reducible apply wv_max) | (with_reducible apply wv_min) | (with_reducible apply wv_listL) | (with_reducible apply wv_listT) | (with_reducible apply wv_listR) | (with_reducible apply wv_tupL) | (with_reducible apply wv_tupT) | (with_reducible apply wv_tupR) | (with_reducible apply wv_ixL) | (with_reducible apply wv_ixT) | (with_reducible apply wv_ixR) | (with_reducible apply wv_ixP0) | (with_reducible apply wv_ixP1) | (with_reducible apply wv_at0) | (with_reducible apply wv_at1) | (with_reducible apply wv_at2) | (with_reducible apply wv_inL) | (with_reducible apply wv_inT) | (with_reducible apply wv_inR) | (with_reducible apply wv_ninL) | (with_reducible apply wv_ninT) | (with_reducible apply wv_ninR) | (with_reducible apply wv_inW) | (with_reducible apply wv_ninW) | (with_reducible apply wv_keysSW) | (with_reducible apply wv_keysTW) | (with_reducible apply wv_keysLW) | (with_reducible apply wv_sortL) | (with_reducible apply wv_sortT) | (with_reducible apply wv_sortR) | (with_reducible apply wv_sortP) | (with_reducible apply wv_neP) | (with_reducible apply wv_intB) | (with_reducible apply wv_intI) | (with_reducible apply wv_countL) | (with_reducible apply wv_isN) | (with_reducible apply wv_notN) | ((with_reducible apply we_var); (focus rfl)) | ((with_reducible apply wg_tp); (focus rfl)) | ((with_reducible apply wg_rw); (focus rfl)) | ((with_reducible apply wg_lp); (focus rfl)) | ((with_reducible apply kN_int); (focus (constructor <;> omega))) | ((with_reducible apply wv_mod); (focus omega)) | ((with_reducible apply wv_div); (focus omega); (focus omega)) | ((with_reducible apply wv_isi); (focus rfl); (focus (simp only [st_NoneType_bool, st_NoneType_int, st_NoneType_str, st_NoneType_tuple, st_NoneType_list, st_NoneType_dict, st_bool_bool, st_bool_int, st_bool_str, st_bool_tuple, st_bool_list, st_bool_dict, st_int_bool, st_int_int, st_int_str, st_int_tuple, st_int_list, st_int_dict, st_str_bool, st_str_int, st_str_str, st_str_tuple, st_str_list, st_str_dict, st_tuple_bool, st_tuple_int, st_tuple_str, st_tuple_tuple, st_tuple_list, st_tuple_dict, st_list_bool, st_list_int, st_list_str, st_list_tuple, st_list_list, st_list_dict, st_dict_bool, st_dict_int, st_dict_str, st_dict_tuple, st_dict_list, st_dict_dict]; first | done | rfl))))
local macro_rules
  | `(tactic| show wp) => `(tactic| repeat (show wp1))
local macro_rules
  | `(tactic| show wr $e) => `(tactic| ((first | refine we_of $e ?_ | refine wv_of $e ?_ | refine wp_of $e ?_ | refine wm_of $e ?_ | refine wt_of $e ?_ | refine wa_of $e ?_ | refine wg_of $e ?_ | refine wi_of $e ?_); show wp))
noncomputable section
--@fresh _law_full _law_thinned _law_begun _law_web _law_twin _law_walk
--@told _law_flat _law_bent
--@opt _law_due countv=1
--@opt _law_small rowd=1
--@opt _law_bent lists=_law_some,_law_walk_here

def b__law_mixed : XS := (sSeq (sAsg (xOp opMod (xOp opAdd (xOp opAdd (xOp opMul (xOp opMod (xVar 0) (xC (.int 2147483647))) (xC (.int 48271))) (xOp opMul (xOp opMul (xC (.int 7919)) (xVar 1)) (xVar 1))) (xC (.int 104729))) (xC (.int 2147483647))) (gNm 2))
    (sRet (xOp opMod (xOp opMul (xVar 2) (xVar 2)) (xC (.int 2147483629)))))
def g__law_mixed : Fn := runDef 3 b__law_mixed
theorem d__law_mixed {x0 x1 : MV} {h : MH} {R : MV → MH → Prop} (w : Wp (b__law_mixed [some x0, some x1, none] h) fun f _ h1 => kR f fun v => R v h1) : We (g__law_mixed [x0, x1] h) R := we_def w

def mixOf (c k : Int) : Int :=
  let n := (c % 2147483647 * 48271 + 7919 * k * k + 104729) % 2147483647
  n * n % 2147483629
theorem mixed_at (c k : Int) (h : MH) (k0 : -4611686018427387904 < k) (k1 : k < 4611686018427387904) : g__law_mixed [.int c, .int k] h = some (.int (mixOf c k), h) := by
  have e1 := Int.emod_nonneg c (show (2147483647 : Int) ≠ 0 by decide)
  have e2 := Int.emod_lt_of_pos c (show (0 : Int) < 2147483647 by decide)
  have hn : ∀ z : Int, 0 ≤ z % 2147483647 ∧ z % 2147483647 < 2147483647 := fun z => ⟨Int.emod_nonneg z (by decide), Int.emod_lt_of_pos z (by decide)⟩
  unfold g__law_mixed b__law_mixed
  simp (discharger := omega) only [mod_ok, mul_ok, sSeq, sAsg, sIf, sRet, sRetN, sExpr, sNext, sPar, sPar3, sBk, sCt, sFor, sPut, gNm, gTp, gsCons, gsNil, xVar, xC, xOp, xUn, xCons, xNil, xArgs, xCall, xTup, xLst, xBox, boxM, xIf, xAnd, xOr, xNot, xB, xAndT, xOrT, xNotT, xAppend, xPop, xPopAt, xExtend, xExtendT, xSlL, xPart, xNoPart, iSeq, iRange1, iRange2, cYes, seqOf, listOf, isLstC, runDef, sBegin, List.map_cons, List.map_nil, List.length_cons, List.length_nil, List.getElem?_cons_zero, List.getElem?_cons_succ, List.getElem?_nil, List.set_cons_zero, List.set_cons_succ, List.cons_append, List.nil_append, List.append_nil, Nat.sub_self, Nat.zero_add, Nat.reduceAdd, Nat.reduceSub, Nat.add_one_sub_one, List.replicate_zero, List.replicate_succ, Option.map_some, if_true, if_false, decide_true, decide_false, Bool.not_true, Bool.not_false, Bool.true_or, Bool.false_or, Bool.or_true, Bool.or_false, Bool.true_and, Bool.false_and, Bool.and_true, Bool.and_false, beq_self_eq_true, opAdd, opSub, opNeg, opLt, opLe, opGt, opGe, opIx, fLen, fAbs, fMax2, fMin2, fIsi, tyN, fList, fTuple, fDictP, opCat, opCatT, lstC, fKeys, fKeysS, fSorted, xPairs, xDisp, xUpdate, sForK, gLp, fKeysT, opRevT, iEnumT, keyOf, keyV, opIsBl, opNotBl, dictK, st_NoneType_bool, st_NoneType_int, st_NoneType_str, st_NoneType_tuple, st_NoneType_list, st_NoneType_dict, st_bool_bool, st_bool_int, st_bool_str, st_bool_tuple, st_bool_list, st_bool_dict, st_int_bool, st_int_int, st_int_str, st_int_tuple, st_int_list, st_int_dict, st_str_bool, st_str_int, st_str_str, st_str_tuple, st_str_list, st_str_dict, st_tuple_bool, st_tuple_int, st_tuple_str, st_tuple_tuple, st_tuple_list, st_tuple_dict, st_list_bool, st_list_int, st_list_str, st_list_tuple, st_list_list, st_list_dict, st_dict_bool, st_dict_int, st_dict_str, st_dict_tuple, st_dict_list, st_dict_dict]
  rfl
theorem mix_rng (c k : Int) : 0 ≤ mixOf c k ∧ mixOf c k < 2147483629 := ⟨Int.emod_nonneg _ (by decide), Int.emod_lt_of_pos _ (by decide)⟩
/-- draws -/
def Drawn (ds : List Int) : Prop := ∀ d ∈ ds, 0 ≤ d ∧ d < 2147483629
theorem Drawn.snoc {ds : List Int} {d : Int} (h : Drawn ds) (h0 : 0 ≤ d) (h1 : d < 2147483629) : Drawn (ds ++ [d]) := fun x hx => by
  rcases List.mem_append.mp hx with q | q
  · exact h x q
  · rw [List.mem_singleton.mp q]; exact ⟨h0, h1⟩
def B2__law_draws : XS := (sExpr (xAppend (xVar 1) (xCall g__law_mixed (xCons (xCall g__law_mixed (xCons (xVar 3) (xCons (xOp opAdd (xOp opMul (xC (.int 3)) (xVar 4)) (xC (.int 1))) xNil))) (xCons (xOp opAdd (xOp opAdd (xVar 4) (xVar 2)) (xC (.int 2))) xNil)))))
def W3__law_draws : XT := (xAndT (xB (xOp opGe (xVar 3) (xOp opPow (xC (.int 10)) (xC (.int 18))))) (xB (xOp opLt (xArgs fLen (xCons (xVar 1) xNil)) (xC (.int 900)))))
def B3__law_draws : XS := (sSeq (sExpr (xAppend (xVar 1) (xOp opMod (xVar 3) (xC (.int 2147483629)))))
    (sAsg (xOp opDiv (xVar 3) (xC (.int 2147483629))) (gNm 3)))
def B1__law_draws : XS := (sSeq (sAsg (xArgs fAbs (xCons (xOp opIx (xVar 0) (xVar 2)) xNil)) (gNm 3))
    (sSeq (sIf (xB (xOp opLt (xVar 3) (xOp opPow (xC (.int 10)) (xC (.int 18))))) (sFor (iRange1 (xC (.int 12))) (gNm 4) B2__law_draws) sNext)
    (sSeq (sWhile W3__law_draws B3__law_draws)
    (sIf (xB (xOp opGe (xVar 3) (xC (.int 2147483629)))) (sExpr (xAppend (xVar 1) (xOp opMod (xVar 3) (xC (.int 2147483629))))) sNext))))
def b__law_draws : XS := (sSeq (sAsg (xBox (xLst xNil)) (gNm 1))
    (sSeq (sFor (iRange1 (xArgs fMin2 (xCons (xArgs fLen (xCons (xVar 0) xNil)) (xCons (xC (.int 63)) xNil)))) (gNm 2) B1__law_draws)
    (sRet (xVar 1))))
def g__law_draws : Fn := runDef 5 b__law_draws
theorem d__law_draws {x0 : MV} {h : MH} {R : MV → MH → Prop} (w : Wp (b__law_draws [some x0, none, none, none, none] h) fun f _ h1 => kR f fun v => R v h1) : We (g__law_draws [x0] h) R := we_def w

theorem pow18 (h : MH) : opPow h (.int 10) (.int 18) = some (.int 1000000000000000000) := rfl
/-- the twelve of a small cell -/
theorem draws_3 (ns : List Int) (h : MH) (k : Nat) (c : Int) (ds : List Int) (o4 : Option MV) (hk : k < 63) (hd : Drawn ds) (hlen : ds.length ≤ 912 + 13 * k) :
    ∃ ds2 o4', forGo (gNm 4) B2__law_draws (rngM 0 12) [some (.scr ns), some (.ref h.length), some (.int (k : Nat)), some (.int c), o4] (h ++ [.lst (ds.map .int)])
      = some (.nx, [some (.scr ns), some (.ref h.length), some (.int (k : Nat)), some (.int c), o4'], h ++ [.lst (ds2.map .int)]) ∧ Drawn ds2 ∧ ds2.length ≤ ds.length + 12 := by
  obtain ⟨s', h', e, ds2, o4', rfl, rfl, d2, l2⟩ := forGo_run (g := gNm 4) (b := B2__law_draws)
    (fun i s h1 => ∃ ds2 o4', s = [some (.scr ns), some (.ref h.length), some (.int (k : Nat)), some (.int c), o4'] ∧ h1 = h ++ [.lst (ds2.map .int)] ∧ Drawn ds2 ∧ ds2.length ≤ ds.length + i)
    (rngM 0 12) 0 _ _ ⟨ds, o4, rfl, rfl, hd, by omega⟩ (by
    rintro i x s h1 ex ⟨ds2, o4', rfl, rfl, d2, l2⟩
    obtain ⟨rfl, hi⟩ := rng_at ex
    have hz : ds2.length < szLine := by unfold szLine; omega
    refine ⟨_, _, .nx, _, _, rfl, ?_, .inl rfl, ds2 ++ [mixOf (mixOf c (3 * (0 + (i : Nat)) + 1)) (0 + (i : Nat) + (k : Nat) + 2)], some (.int (0 + (i : Nat))), rfl, rfl, d2.snoc (mix_rng _ _).1 (mix_rng _ _).2, by simp; omega⟩
    simp (discharger := omega) only [B2__law_draws, mod_ok, mul_ok, mixed_at, sSeq, sAsg, sIf, sRet, sRetN, sExpr, sNext, sPar, sPar3, sBk, sCt, sFor, sPut, gNm, gTp, gsCons, gsNil, xVar, xC, xOp, xUn, xCons, xNil, xArgs, xCall, xTup, xLst, xBox, boxM, xIf, xAnd, xOr, xNot, xB, xAndT, xOrT, xNotT, xAppend, xPop, xPopAt, xExtend, xExtendT, xSlL, xPart, xNoPart, iSeq, iRange1, iRange2, cYes, seqOf, listOf, isLstC, runDef, sBegin, List.map_cons, List.map_nil, List.length_cons, List.length_nil, List.getElem?_cons_zero, List.getElem?_cons_succ, List.getElem?_nil, List.set_cons_zero, List.set_cons_succ, List.cons_append, List.nil_append, List.append_nil, Nat.sub_self, Nat.zero_add, Nat.reduceAdd, Nat.reduceSub, Nat.add_one_sub_one, List.replicate_zero, List.replicate_succ, Option.map_some, if_true, if_false, decide_true, decide_false, Bool.not_true, Bool.not_false, Bool.true_or, Bool.false_or, Bool.or_true, Bool.or_false, Bool.true_and, Bool.false_and, Bool.and_true, Bool.and_false, beq_self_eq_true, opAdd, opSub, opNeg, opLt, opLe, opGt, opGe, opIx, fLen, fAbs, fMax2, fMin2, fIsi, tyN, fList, fTuple, fDictP, opCat, opCatT, lstC, fKeys, fKeysS, fSorted, xPairs, xDisp, xUpdate, sForK, gLp, fKeysT, opRevT, iEnumT, keyOf, keyV, opIsBl, opNotBl, dictK, st_NoneType_bool, st_NoneType_int, st_NoneType_str, st_NoneType_tuple, st_NoneType_list, st_NoneType_dict, st_bool_bool, st_bool_int, st_bool_str, st_bool_tuple, st_bool_list, st_bool_dict, st_int_bool, st_int_int, st_int_str, st_int_tuple, st_int_list, st_int_dict, st_str_bool, st_str_int, st_str_str, st_str_tuple, st_str_list, st_str_dict, st_tuple_bool, st_tuple_int, st_tuple_str, st_tuple_tuple, st_tuple_list, st_tuple_dict, st_list_bool, st_list_int, st_list_str, st_list_tuple, st_list_list, st_list_dict, st_dict_bool, st_dict_int, st_dict_str, st_dict_tuple, st_dict_list, st_dict_dict, get_last, set_last, List.length_map, hz, if_true, List.map_append])
  rw [rng_len] at l2
  exact ⟨ds2, o4', e, d2, by omega⟩
/-- the places of a great one -/
theorem draws_w (ns : List Int) (h : MH) (k : Nat) (c : Int) (ds : List Int) (o4 : Option MV) (hc : 0 ≤ c) (hd : Drawn ds) (hlen : ds.length ≤ 912 + 13 * k + 12) :
    ∃ (ds2 : List Int) (c2 : Int), sWhile W3__law_draws B3__law_draws [some (.scr ns), some (.ref h.length), some (.int (k : Nat)), some (.int c), o4] (h ++ [.lst (ds.map .int)])
      = some (.nx, [some (.scr ns), some (.ref h.length), some (.int (k : Nat)), some (.int c2), o4], h ++ [.lst (ds2.map .int)]) ∧ Drawn ds2 ∧ (ds2.length ≤ ds.length ∨ ds2.length ≤ 900) := by
  obtain ⟨s', h', e, ds2, c2, rfl, rfl, d2, l2⟩ := sWhile_run (c := W3__law_draws) (b := B3__law_draws)
    (fun s h1 => ∃ (ds2 : List Int) (c2 : Int), s = [some (.scr ns), some (.ref h.length), some (.int (k : Nat)), some (.int c2), o4] ∧ h1 = h ++ [.lst (ds2.map .int)] ∧ 0 ≤ c2 ∧ Drawn ds2 ∧ (ds2.length ≤ ds.length ∨ ds2.length ≤ 900))
    (fun s h1 => ∃ (ds2 : List Int) (c2 : Int), s = [some (.scr ns), some (.ref h.length), some (.int (k : Nat)), some (.int c2), o4] ∧ h1 = h ++ [.lst (ds2.map .int)] ∧ Drawn ds2 ∧ (ds2.length ≤ ds.length ∨ ds2.length ≤ 900))
    (fun _ h1 => match h1[h.length]? with | some (.lst xs) => 1000 - xs.length | _ => 0)
    (by
      rintro s h1 ⟨ds2, c2, rfl, rfl, hc2, d2, l2⟩
      by_cases q : 1000000000000000000 ≤ c2
      · by_cases q2 : ds2.length < 900
        · have hz : ds2.length < szLine := by unfold szLine; omega
          have q3 : ((ds2.length : Nat) : Int) < 900 := by omega
          refine .inr ⟨h ++ [.lst (ds2.map .int)], .nx, _, _, ?_, ?_, .inl rfl, ⟨ds2 ++ [c2 % 2147483629], c2 / 2147483629, rfl, rfl, Int.ediv_nonneg hc2 (by decide), d2.snoc (Int.emod_nonneg _ (by decide)) (Int.emod_lt_of_pos _ (by decide)), .inr (by simp; omega)⟩, ?_⟩
          · simp only [ews, W3__law_draws, get_last, pow18, List.length_map, q, q3]
          · simp (discharger := omega) only [B3__law_draws, sSeq, sAsg, sIf, sRet, sRetN, sExpr, sNext, sPar, sPar3, sBk, sCt, sFor, sPut, gNm, gTp, gsCons, gsNil, xVar, xC, xOp, xUn, xCons, xNil, xArgs, xCall, xTup, xLst, xBox, boxM, xIf, xAnd, xOr, xNot, xB, xAndT, xOrT, xNotT, xAppend, xPop, xPopAt, xExtend, xExtendT, xSlL, xPart, xNoPart, iSeq, iRange1, iRange2, cYes, seqOf, listOf, isLstC, runDef, sBegin, List.map_cons, List.map_nil, List.length_cons, List.length_nil, List.getElem?_cons_zero, List.getElem?_cons_succ, List.getElem?_nil, List.set_cons_zero, List.set_cons_succ, List.cons_append, List.nil_append, List.append_nil, Nat.sub_self, Nat.zero_add, Nat.reduceAdd, Nat.reduceSub, Nat.add_one_sub_one, List.replicate_zero, List.replicate_succ, Option.map_some, if_true, if_false, decide_true, decide_false, Bool.not_true, Bool.not_false, Bool.true_or, Bool.false_or, Bool.or_true, Bool.or_false, Bool.true_and, Bool.false_and, Bool.and_true, Bool.and_false, beq_self_eq_true, opAdd, opSub, opNeg, opLt, opLe, opGt, opGe, opIx, fLen, fAbs, fMax2, fMin2, fIsi, tyN, fList, fTuple, fDictP, opCat, opCatT, lstC, fKeys, fKeysS, fSorted, xPairs, xDisp, xUpdate, sForK, gLp, fKeysT, opRevT, iEnumT, keyOf, keyV, opIsBl, opNotBl, dictK, st_NoneType_bool, st_NoneType_int, st_NoneType_str, st_NoneType_tuple, st_NoneType_list, st_NoneType_dict, st_bool_bool, st_bool_int, st_bool_str, st_bool_tuple, st_bool_list, st_bool_dict, st_int_bool, st_int_int, st_int_str, st_int_tuple, st_int_list, st_int_dict, st_str_bool, st_str_int, st_str_str, st_str_tuple, st_str_list, st_str_dict, st_tuple_bool, st_tuple_int, st_tuple_str, st_tuple_tuple, st_tuple_list, st_tuple_dict, st_list_bool, st_list_int, st_list_str, st_list_tuple, st_list_list, st_list_dict, st_dict_bool, st_dict_int, st_dict_str, st_dict_tuple, st_dict_list, st_dict_dict, get_last, set_last, mod_ok, div_ok, List.length_map, hz, if_true, List.map_append]
          · simp only [get_last, List.length_map, List.length_append, List.length_singleton]; omega
        · refine .inl ⟨h ++ [.lst (ds2.map .int)], ?_, ds2, c2, rfl, rfl, d2, l2⟩
          have q3 : ¬ ((ds2.length : Nat) : Int) < 900 := by omega
          simp only [ews, W3__law_draws, get_last, pow18, List.length_map, q, q3]
      · refine .inl ⟨h ++ [.lst (ds2.map .int)], ?_, ds2, c2, rfl, rfl, d2, l2⟩
        simp only [ews, W3__law_draws, get_last, pow18, q])
    [some (.scr ns), some (.ref h.length), some (.int (k : Nat)), some (.int c), o4] (h ++ [.lst (ds.map .int)]) ⟨ds, c, rfl, rfl, hc, hd, .inl (Nat.le_refl _)⟩
  exact ⟨ds2, c2, e, d2, l2⟩
theorem draws_at (ns : List Int) (hl : ns.length ≤ 63) (h : MH) : ∃ ds : List Int, g__law_draws [.scr ns] h = some (.ref h.length, h ++ [.lst (ds.map .int)]) ∧ Drawn ds ∧ ds.length ≤ 2000 := by
  obtain ⟨s', h', e, ds, o2, o3, o4, rfl, rfl, d2, l2⟩ := forGo_run (g := gNm 2) (b := B1__law_draws)
    (fun i s h1 => ∃ ds o2 o3 o4, s = [some (.scr ns), some (.ref h.length), o2, o3, o4] ∧ h1 = h ++ [.lst (ds.map .int)] ∧ Drawn ds ∧ ds.length ≤ 912 + 13 * i)
    (rngM 0 (min ns.length 63)) 0 [some (.scr ns), some (.ref h.length), none, none, none] (h ++ [.lst []]) ⟨[], none, none, none, rfl, rfl, (show Drawn [] from fun _ hm => by cases hm), by simp⟩ (by
    rintro i x s h1 ex ⟨ds, o2, o3, o4, rfl, rfl, d2, l2⟩
    rw [Nat.zero_add] at l2 ⊢
    obtain ⟨rfl, hi⟩ := rng_at ex
    rw [Int.zero_add]
    have hi2 : i < ns.length := by omega
    have ea : atM (ns.map MV.int) (i : Nat) = some (.int ns[i]) := at_nat (by rw [map_at, List.getElem?_eq_getElem hi2]; rfl)
    obtain ⟨c, hc, hc0⟩ : ∃ c : Int, (if ns[i] < 0 then -ns[i] else ns[i]) = c ∧ 0 ≤ c := ⟨_, rfl, by split <;> omega⟩
    -- small cells
    have st1 : ∃ (ds2 : List Int) (o4' : Option MV), (if c < 1000000000000000000 then forGo (gNm 4) B2__law_draws (rngM 0 12) [some (.scr ns), some (.ref h.length), some (.int (i : Nat)), some (.int c), o4] (h ++ [.lst (ds.map .int)]) else some (.nx, [some (.scr ns), some (.ref h.length), some (.int (i : Nat)), some (.int c), o4], h ++ [.lst (ds.map .int)]))
        = some (.nx, [some (.scr ns), some (.ref h.length), some (.int (i : Nat)), some (.int c), o4'], h ++ [.lst (ds2.map .int)]) ∧ Drawn ds2 ∧ ds2.length ≤ 912 + 13 * i + 12 := by
      by_cases q : c < 1000000000000000000
      · obtain ⟨ds2, o4', e1, e2, e3⟩ := draws_3 ns h i c ds o4 (by omega) d2 l2
        exact ⟨ds2, o4', by rw [if_pos q]; exact e1, e2, by omega⟩
      · exact ⟨ds, o4, by rw [if_neg q], d2, by omega⟩
    obtain ⟨ds2, o4', e2, d3, l3⟩ := st1
    obtain ⟨ds3, c3, e3, d4, l4⟩ := draws_w ns h i c ds2 o4' hc0 d3 l3
    have hz : ds3.length < szLine := by unfold szLine; omega
    have pre : B1__law_draws [some (.scr ns), some (.ref h.length), some (.int (i : Nat)), o3, o4] (h ++ [.lst (ds.map .int)]) = (if 2147483629 ≤ c3 then some (.nx, [some (.scr ns), some (.ref h.length), some (.int (i : Nat)), some (.int c3), o4'], h ++ [.lst ((ds3 ++ [c3 % 2147483629]).map .int)]) else some (.nx, [some (.scr ns), some (.ref h.length), some (.int (i : Nat)), some (.int c3), o4'], h ++ [.lst (ds3.map .int)])) := by
      have t12 : (-(2 : Int) ^ 62 ≤ 12 ∧ (12 : Int) < 2 ^ 62) := by decide
      have n12 : (12 : Int).toNat = 12 := rfl
      simp only [ews, B1__law_draws, ea, hc, pow18, t12, and_self, if_true, n12]
      by_cases q : c < 1000000000000000000
      · rw [if_pos q] at e2
        simp only [ews, q, decide_true, e2, e3]
        by_cases q2 : 2147483629 ≤ c3
        · simp (discharger := omega) only [q2, sSeq, sAsg, sIf, sRet, sRetN, sExpr, sNext, sPar, sPar3, sBk, sCt, sFor, sPut, gNm, gTp, gsCons, gsNil, xVar, xC, xOp, xUn, xCons, xNil, xArgs, xCall, xTup, xLst, xBox, boxM, xIf, xAnd, xOr, xNot, xB, xAndT, xOrT, xNotT, xAppend, xPop, xPopAt, xExtend, xExtendT, xSlL, xPart, xNoPart, iSeq, iRange1, iRange2, cYes, seqOf, listOf, isLstC, runDef, sBegin, List.map_cons, List.map_nil, List.length_cons, List.length_nil, List.getElem?_cons_zero, List.getElem?_cons_succ, List.getElem?_nil, List.set_cons_zero, List.set_cons_succ, List.cons_append, List.nil_append, List.append_nil, Nat.sub_self, Nat.zero_add, Nat.reduceAdd, Nat.reduceSub, Nat.add_one_sub_one, List.replicate_zero, List.replicate_succ, Option.map_some, if_true, if_false, decide_true, decide_false, Bool.not_true, Bool.not_false, Bool.true_or, Bool.false_or, Bool.or_true, Bool.or_false, Bool.true_and, Bool.false_and, Bool.and_true, Bool.and_false, beq_self_eq_true, opAdd, opSub, opNeg, opLt, opLe, opGt, opGe, opIx, fLen, fAbs, fMax2, fMin2, fIsi, tyN, fList, fTuple, fDictP, opCat, opCatT, lstC, fKeys, fKeysS, fSorted, xPairs, xDisp, xUpdate, sForK, gLp, fKeysT, opRevT, iEnumT, keyOf, keyV, opIsBl, opNotBl, dictK, st_NoneType_bool, st_NoneType_int, st_NoneType_str, st_NoneType_tuple, st_NoneType_list, st_NoneType_dict, st_bool_bool, st_bool_int, st_bool_str, st_bool_tuple, st_bool_list, st_bool_dict, st_int_bool, st_int_int, st_int_str, st_int_tuple, st_int_list, st_int_dict, st_str_bool, st_str_int, st_str_str, st_str_tuple, st_str_list, st_str_dict, st_tuple_bool, st_tuple_int, st_tuple_str, st_tuple_tuple, st_tuple_list, st_tuple_dict, st_list_bool, st_list_int, st_list_str, st_list_tuple, st_list_list, st_list_dict, st_dict_bool, st_dict_int, st_dict_str, st_dict_tuple, st_dict_list, st_dict_dict, get_last, set_last, mod_ok, List.length_map, hz, if_true, List.map_append]
        · simp only [ews, q2, if_false]
      · rw [if_neg q] at e2
        simp only [Option.some.injEq, Prod.mk.injEq, List.cons.injEq, true_and, and_true] at e2
        obtain ⟨rfl, e2⟩ := e2
        rw [← e2] at e3
        simp only [ews, q, decide_false, e3]
        by_cases q2 : 2147483629 ≤ c3
        · simp (discharger := omega) only [q2, sSeq, sAsg, sIf, sRet, sRetN, sExpr, sNext, sPar, sPar3, sBk, sCt, sFor, sPut, gNm, gTp, gsCons, gsNil, xVar, xC, xOp, xUn, xCons, xNil, xArgs, xCall, xTup, xLst, xBox, boxM, xIf, xAnd, xOr, xNot, xB, xAndT, xOrT, xNotT, xAppend, xPop, xPopAt, xExtend, xExtendT, xSlL, xPart, xNoPart, iSeq, iRange1, iRange2, cYes, seqOf, listOf, isLstC, runDef, sBegin, List.map_cons, List.map_nil, List.length_cons, List.length_nil, List.getElem?_cons_zero, List.getElem?_cons_succ, List.getElem?_nil, List.set_cons_zero, List.set_cons_succ, List.cons_append, List.nil_append, List.append_nil, Nat.sub_self, Nat.zero_add, Nat.reduceAdd, Nat.reduceSub, Nat.add_one_sub_one, List.replicate_zero, List.replicate_succ, Option.map_some, if_true, if_false, decide_true, decide_false, Bool.not_true, Bool.not_false, Bool.true_or, Bool.false_or, Bool.or_true, Bool.or_false, Bool.true_and, Bool.false_and, Bool.and_true, Bool.and_false, beq_self_eq_true, opAdd, opSub, opNeg, opLt, opLe, opGt, opGe, opIx, fLen, fAbs, fMax2, fMin2, fIsi, tyN, fList, fTuple, fDictP, opCat, opCatT, lstC, fKeys, fKeysS, fSorted, xPairs, xDisp, xUpdate, sForK, gLp, fKeysT, opRevT, iEnumT, keyOf, keyV, opIsBl, opNotBl, dictK, st_NoneType_bool, st_NoneType_int, st_NoneType_str, st_NoneType_tuple, st_NoneType_list, st_NoneType_dict, st_bool_bool, st_bool_int, st_bool_str, st_bool_tuple, st_bool_list, st_bool_dict, st_int_bool, st_int_int, st_int_str, st_int_tuple, st_int_list, st_int_dict, st_str_bool, st_str_int, st_str_str, st_str_tuple, st_str_list, st_str_dict, st_tuple_bool, st_tuple_int, st_tuple_str, st_tuple_tuple, st_tuple_list, st_tuple_dict, st_list_bool, st_list_int, st_list_str, st_list_tuple, st_list_list, st_list_dict, st_dict_bool, st_dict_int, st_dict_str, st_dict_tuple, st_dict_list, st_dict_dict, get_last, set_last, mod_ok, List.length_map, hz, if_true, List.map_append]
        · simp only [ews, q2, if_false]
    by_cases q : 2147483629 ≤ c3
    · rw [if_pos q] at pre
      exact ⟨_, _, .nx, _, _, rfl, pre, .inl rfl, ds3 ++ [c3 % 2147483629], _, _, _, rfl, rfl, d4.snoc (Int.emod_nonneg _ (by decide)) (Int.emod_lt_of_pos _ (by decide)), by simp; omega⟩
    · rw [if_neg q] at pre
      exact ⟨_, _, .nx, _, _, rfl, pre, .inl rfl, ds3, _, _, _, rfl, rfl, d4, by omega⟩)
  rw [rng_len] at l2
  refine ⟨ds, ?_, d2, by omega⟩
  have em : (if (63 : Int) < ((ns.length : Nat) : Int) then (63 : Int) else ((ns.length : Nat) : Int)) = ((min ns.length 63 : Nat) : Int) := by split <;> omega
  have em2 : (((min ns.length 63 : Nat) : Int)).toNat = min ns.length 63 := by omega
  have b0 : -(2 : Int) ^ 62 ≤ ((min ns.length 63 : Nat) : Int) ∧ ((min ns.length 63 : Nat) : Int) < 2 ^ 62 := by omega
  simp only [ews, g__law_draws, b__law_draws, List.length_map, gt_iff_lt, em, b0, and_self, if_true, em2, e]

def b__law_next : XS := (sSeq (sIf (xB (xOp opEq (xVar 0) (xLst xNil))) (sRet (xC (.int 0))) sNext)
    (sRet (xPopAt (xVar 0) (xC (.int 0)))))
def g__law_next : Fn := runDef 1 b__law_next
theorem d__law_next {x0 : MV} {h : MH} {R : MV → MH → Prop} (w : Wp (b__law_next [some x0] h) fun f _ h1 => kR f fun v => R v h1) : We (g__law_next [x0] h) R := we_def w

theorem next_at (ds : List Int) (d : Nat) (h : MH) (e : h[d]? = some (.lst (ds.map .int))) : g__law_next [.ref d] h = some (.int (ds.headD 0), h.set d (.lst (ds.tail.map .int))) := by
  have hl : d < h.length := (List.getElem?_eq_some_iff.mp e).1
  cases ds with
  | nil =>
    have eq1 : opEq h (.ref d) (.lst []) = some (.bl true) := eq_cell [] e
    have ss : h.set d (.lst []) = h := set_same e
    simp only [ews, g__law_next, b__law_next, eq1, List.headD_nil, List.tail_nil, ss]
  | cons x xs =>
    have eq1 : opEq h (.ref d) (.lst []) = some (.bl false) := eq_cell [] e
    have z0 : (-(2 : Int) ^ 62 ≤ 0 ∧ (0 : Int) < 2 ^ 62) := by decide
    have i0 : ixM (xs.length + 1) 0 = some 0 := by unfold ixM; rw [if_pos (by omega), if_pos (by omega)]; rfl
    simp only [ews, g__law_next, b__law_next, eq1, e, List.map_cons, List.length_map, z0, and_self, if_true, i0, List.eraseIdx_cons_zero, List.headD_cons, List.tail_cons]
theorem Drawn.tail {ds : List Int} (h : Drawn ds) : Drawn ds.tail := fun x hx => h x (List.mem_of_mem_tail hx)
theorem Drawn.head {ds : List Int} (h : Drawn ds) : 0 ≤ ds.headD 0 ∧ ds.headD 0 < 2147483629 := by
  cases ds with
  | nil => exact ⟨by decide, by decide⟩
  | cons x xs => exact h x List.mem_cons_self
--@fresh _law_full
/-! webs that have grown point by point -/
def sumR (W : WL) : Nat := (W.map fun p => p.2.length).sum
/-- what a three-cornered web that has grown point by point has more -/
structure Grw (W : WL) : Prop where
  sum : sumR W + 12 = 6 * W.length
  con : ∀ Q : Int → Prop, (∀ x r y, rowOf W x = some r → y ∈ r → Q x → Q y) → ∀ x y, x ∈ keysOf' W → y ∈ keysOf' W → Q x → Q y
/-! ### grown webs -/
theorem rep_no : ∀ {W : WL} {u : Int} {r : List Int}, u ∉ keysOf' W → repRow W u r = W
  | [], _, _, _ => rfl
  | p :: W, u, r, h => by
    have h2 : p.1 ≠ u ∧ u ∉ keysOf' W := by simp only [keysOf', List.map_cons, List.mem_cons, not_or] at h; exact ⟨fun q => h.1 q.symm, h.2⟩
    rw [repRow, if_neg h2.1, rep_no h2.2]
theorem rep_sum : ∀ {W : WL} {u : Int} {r r0 : List Int}, (keysOf' W).Nodup → rowOf W u = some r0 → sumR (repRow W u r) + r0.length = sumR W + r.length
  | [], _, _, _, _, e => by cases e
  | p :: W, u, r, r0, nd, e => by
    have n2 : p.1 ∉ keysOf' W ∧ (keysOf' W).Nodup := List.nodup_cons.mp nd
    rw [rowOf] at e
    rw [repRow]
    by_cases q : p.1 = u
    · rw [if_pos q] at e; cases e
      rw [if_pos q, rep_no (q ▸ n2.1)]
      unfold sumR
      rw [List.map_cons, List.sum_cons, List.map_cons, List.sum_cons]
      dsimp only
      omega
    · rw [if_neg q] at e
      have ih := rep_sum (r := r) n2.2 e
      rw [if_neg q]
      unfold sumR at ih ⊢
      rw [List.map_cons, List.sum_cons, List.map_cons, List.sum_cons]
      omega
theorem put_sum {W : WL} {u : Int} {r r0 : List Int} (nd : (keysOf' W).Nodup) (e : rowOf W u = some r0) : sumR (putRow W u r) + r0.length = sumR W + r.length := by
  unfold putRow
  rw [if_pos (by rw [e]; rfl)]
  exact rep_sum nd e
theorem grw_tri0 {a b c : Int} (h1 : a ≠ b) (h2 : a ≠ c) (h3 : b ≠ c) : Grw (tri0 a b c) := by
  have ra : rowOf (tri0 a b c) a = some [b, c] := by simp [tri0, rowOf]
  have rb : rowOf (tri0 a b c) b = some [c, a] := by simp [tri0, rowOf, h1]
  have rc : rowOf (tri0 a b c) c = some [a, b] := by simp [tri0, rowOf, h2, h3]
  refine ⟨rfl, fun Q hQ x y hx hy q => ?_⟩
  have ab := hQ a _ b ra (by simp)
  have bc := hQ b _ c rb (by simp)
  have ca := hQ c _ a rc (by simp)
  simp only [tri0, keysOf', List.map_cons, List.map_nil, List.mem_cons, List.not_mem_nil, or_false] at hx hy
  have qa : Q a := by
    rcases hx with rfl | rfl | rfl
    · exact q
    · exact ca (bc q)
    · exact ca q
  rcases hy with rfl | rfl | rfl
  · exact qa
  · exact ab qa
  · exact bc (ab qa)
theorem grw_stand {W : WL} (T : Tri W) (g : Grw W) {p x y : Int} {rx ry rz : List Int} (ex : rowOf W x = some rx) (hy : y ∈ rx) (ey : rowOf W y = some ry) (ez : rowOf W (nxt ry x) = some rz) (hp : p ∉ keysOf' W) : Grw (standIn W p x y (nxt ry x) rx ry rz) := by
  obtain ⟨hx, rz', ez', hz, hyz, hzx, hxz, d1, d2, d3, f1, f2⟩ := T.corners ex hy ey
  rw [ez] at ez'; cases ez'
  obtain ⟨T', RO, KO⟩ := T.stand ex hy ey ez hp
  generalize hze : nxt ry x = z at *
  have np : ∀ u r, rowOf W u = some r → p ∉ r := fun u r e q => by
    obtain ⟨r', e', _⟩ := T.sym u p r e q
    exact hp (rowOf_mem e')
  have xp : x ≠ p := fun q => hp (q ▸ rowOf_mem ex)
  refine ⟨?_, fun Q hQ a b ha hb q => ?_⟩
  · have k1 : keysOf' (putRow W y (ins ry x p)) = keysOf' W := by rw [keys_put, if_pos (rowOf_mem ey)]
    have k2 : keysOf' (putRow (putRow W y (ins ry x p)) z (ins rz y p)) = keysOf' W := by rw [keys_put, k1, if_pos (rowOf_mem ez)]
    have k3 : keysOf' (putRow (putRow (putRow W y (ins ry x p)) z (ins rz y p)) x (ins rx z p)) = keysOf' W := by rw [keys_put, k2, if_pos (rowOf_mem ex)]
    have e1 : rowOf (putRow W y (ins ry x p)) z = some rz := by rw [rowOf_put, if_neg fun q => d2 q.symm]; exact ez
    have e2 : rowOf (putRow (putRow W y (ins ry x p)) z (ins rz y p)) x = some rx := by rw [rowOf_put, if_neg d3, rowOf_put, if_neg fun q => d1 q.symm]; exact ex
    have s1 := put_sum (r := ins ry x p) T.nd ey
    have s2 := put_sum (r := ins rz y p) (by rw [k1]; exact T.nd) e1
    have s3 := put_sum (r := ins rx z p) (by rw [k2]; exact T.nd) e2
    rw [len_ins hx (np y ry ey)] at s1
    rw [len_ins hyz (np z rz ez)] at s2
    rw [len_ins hzx (np x rx ex)] at s3
    have ll : (standIn W p x y z rx ry rz).length = W.length + 1 := by rw [← keys_len, KO, List.length_append, keys_len]; rfl
    have s4 : sumR (standIn W p x y z rx ry rz) = sumR (putRow (putRow (putRow W y (ins ry x p)) z (ins rz y p)) x (ins rx z p)) + 3 := by
      unfold standIn
      rw [put_app (by rw [k3]; exact hp)]
      unfold sumR
      rw [List.map_append, List.sum_append]
      rfl
    have gs := g.sum
    rw [ll, s4]
    omega
  · have cl : ∀ a r b, rowOf W a = some r → b ∈ r → Q a → Q b := fun a r b e hb qa => by
      have ap : a ≠ p := fun q => hp (q ▸ rowOf_mem e)
      have ro := RO a
      rw [if_neg ap] at ro
      split at ro
      · rename_i q; subst q; rw [ex] at e; cases e
        exact hQ a _ b ro ((mem_ins hzx (np a _ ex)).mpr (.inl hb)) qa
      · split at ro
        · rename_i q; subst q; rw [ez] at e; cases e
          exact hQ a _ b ro ((mem_ins hyz (np a _ ez)).mpr (.inl hb)) qa
        · split at ro
          · rename_i q; subst q; rw [ey] at e; cases e
            exact hQ a _ b ro ((mem_ins hx (np a _ ey)).mpr (.inl hb)) qa
          · exact hQ a r b (ro.trans e) hb qa
    have rp : rowOf (standIn W p x y z rx ry rz) p = some [y, x, z] := by rw [RO, if_pos rfl]
    have rx' : rowOf (standIn W p x y z rx ry rz) x = some (ins rx z p) := by rw [RO, if_neg xp, if_pos rfl]
    have px : Q p → Q x := hQ p _ x rp (by simp)
    have xp' : Q x → Q p := hQ x _ p rx' ((mem_ins hzx (np x rx ex)).mpr (.inr rfl))
    rw [KO, List.mem_append, List.mem_singleton] at ha hb
    have qx : Q x := by
      rcases ha with ha | rfl
      · exact g.con Q cl a x ha (rowOf_mem ex) q
      · exact px q
    rcases hb with hb | rfl
    · exact g.con Q cl x b (rowOf_mem ex) hb qx
    · exact xp' qx
/-! ### how the law's flat webs come about -/
inductive Made : WL → Prop
  | bare (os : List Int) : os.Nodup → Made (os.map fun p => (p, []))
  | thin (W : WL) (P : Int → Int → Bool) : Tri W → Grw W → W ≠ [] → (∀ u v, P u v = P v u) → Made (mapRows (fun u r => r.filter (P u)) W)
  | join (W V : WL) : Web W → Web V → (∀ u, u ∈ keysOf' W → u ∉ keysOf' V) → Made W → Made V → Made (W ++ V)
  | turn (W V : WL) : Web W → (keysOf' V).Perm (keysOf' W) → (∀ u r, rowOf W u = some r → ∃ k, rowOf V u = some (r.drop k ++ r.take k)) → Made W → Made V

def b__law_names : XS := (sSeq (sAsg (xCall g__law_next (xCons (xVar 0) xNil)) (gNm 2))
    (sSeq (sAsg (xOp opIx (xLst (xCons (xC (.int 1)) (xCons (xC (.int 3)) (xCons (xC (.int 7)) (xCons (xC (.int 9)) (xCons (xC (.int 11)) (xCons (xC (.int 13)) (xCons (xC (.int 271)) (xCons (xC (.int 389)) (xCons (xC (.int 613)) (xCons (xC (.int 997)) xNil))))))))))) (xOp opMod (xOp opDiv (xVar 2) (xC (.int 1000))) (xC (.int 10)))) (gNm 3))
    (sRet (xLc (iRange1 (xVar 1)) (gNm 4) cYes (xOp opMod (xOp opAdd (xOp opMod (xVar 2) (xC (.int 1000))) (xOp opMul (xVar 4) (xVar 3))) (xC (.int 1000))) [4]))))
def g__law_names : Fn := runDef 5 b__law_names
theorem d__law_names {x0 x1 : MV} {h : MH} {R : MV → MH → Prop} (w : Wp (b__law_names [some x0, some x1, none, none, none] h) fun f _ h1 => kR f fun v => R v h1) : We (g__law_names [x0, x1] h) R := we_def w

/-- unlike names -/
def Names (ns : List Int) : Prop := ns.Nodup ∧ ∀ u ∈ ns, 0 ≤ u ∧ u < 1000
theorem names_at (ds : List Int) (d : Nat) (h : MH) (e : h[d]? = some (.lst (ds.map .int))) (hd : Drawn ds) (many : Nat) (hm : many ≤ 200) : ∃ ns : List Int, Names ns ∧ ns.length = many ∧ g__law_names [.ref d, .int (many : Nat)] h = some (.lst (ns.map .int), h.set d (.lst (ds.tail.map .int))) := by
  obtain ⟨n0, n1⟩ := hd.head
  have en := next_at ds d h e
  generalize ds.headD 0 = n at n0 n1 en
  generalize h.set d (.lst (ds.tail.map .int)) = h1 at en ⊢
  have c2 : ∃ y : Int, (y = 1 ∨ y = 3 ∨ y = 7 ∨ y = 9 ∨ y = 11 ∨ y = 13 ∨ y = 271 ∨ y = 389 ∨ y = 613 ∨ y = 997) ∧ atM [.int 1, .int 3, .int 7, .int 9, .int 11, .int 13, .int 271, .int 389, .int 613, .int 997] (n / 1000 % 10) = some (.int y) := by
    have h4 : n / 1000 % 10 = 0 ∨ n / 1000 % 10 = 1 ∨ n / 1000 % 10 = 2 ∨ n / 1000 % 10 = 3 ∨ n / 1000 % 10 = 4 ∨ n / 1000 % 10 = 5 ∨ n / 1000 % 10 = 6 ∨ n / 1000 % 10 = 7 ∨ n / 1000 % 10 = 8 ∨ n / 1000 % 10 = 9 := by omega
    rcases h4 with q | q | q | q | q | q | q | q | q | q <;> rw [q]
    · exact ⟨1, by omega, rfl⟩
    · exact ⟨3, by omega, rfl⟩
    · exact ⟨7, by omega, rfl⟩
    · exact ⟨9, by omega, rfl⟩
    · exact ⟨11, by omega, rfl⟩
    · exact ⟨13, by omega, rfl⟩
    · exact ⟨271, by omega, rfl⟩
    · exact ⟨389, by omega, rfl⟩
    · exact ⟨613, by omega, rfl⟩
    · exact ⟨997, by omega, rfl⟩
  obtain ⟨y, hy, ey⟩ := c2
  have yb : 0 < y ∧ y < 1000 := by omega
  refine ⟨(List.range many).map fun k : Nat => (n % 1000 + (k : Int) * y) % 1000, ⟨?_, ?_⟩, by simp, ?_⟩
  · show List.Pairwise (· ≠ ·) _
    rw [List.pairwise_map]
    refine List.Pairwise.imp_of_mem ?_ (List.nodup_range (n := many))
    intro i j hi hj hne eq
    rw [List.mem_range] at hi hj
    exact hne (by have := step_inj hy (show 0 ≤ (i : Int) ∧ (i : Int) < 1000 by omega) (show 0 ≤ (j : Int) ∧ (j : Int) < 1000 by omega) eq; omega)
  · intro u hu
    obtain ⟨k, _, rfl⟩ := List.mem_map.mp hu
    exact ⟨Int.emod_nonneg _ (by decide), Int.emod_lt_of_pos _ (by decide)⟩
  · have lc : lcGo (gNm 4) cYes (xOp opMod (xOp opAdd (xOp opMod (xVar 2) (xC (.int 1000))) (xOp opMul (xVar 4) (xVar 3))) (xC (.int 1000))) [] (rngM 0 many) [some (.ref d), some (.int (many : Nat)), some (.int n), some (.int y), none] h1 = some ((List.range many).map fun k : Nat => MV.int ((n % 1000 + (k : Int) * y) % 1000), h1) := by
      have := lcGo_all (g := gNm 4) (c := cYes) (e := xOp opMod (xOp opAdd (xOp opMod (xVar 2) (xC (.int 1000))) (xOp opMul (xVar 4) (xVar 3))) (xC (.int 1000))) (s := [some (.ref d), some (.int (many : Nat)), some (.int n), some (.int y), none]) (h := h1) (fun k : Nat => MV.int (0 + (k : Int))) (fun k : Nat => MV.int ((n % 1000 + (k : Int) * y) % 1000)) (List.range many) [] (by rw [List.length_range, List.length_nil]; unfold szLine; omega) (fun k hk => by
        rw [List.mem_range] at hk
        refine ⟨[some (.ref d), some (.int (many : Nat)), some (.int n), some (.int y), some (.int (0 + (k : Int)))], rfl, rfl, ?_⟩
        rw [Int.zero_add]
        simp (discharger := omega) only [sSeq, sAsg, sIf, sRet, sRetN, sExpr, sNext, sPar, sPar3, sBk, sCt, sFor, sPut, gNm, gTp, gsCons, gsNil, xVar, xC, xOp, xUn, xCons, xNil, xArgs, xCall, xTup, xLst, xBox, boxM, xIf, xAnd, xOr, xNot, xB, xAndT, xOrT, xNotT, xAppend, xPop, xPopAt, xExtend, xExtendT, xSlL, xPart, xNoPart, iSeq, iRange1, iRange2, cYes, seqOf, listOf, isLstC, runDef, sBegin, List.map_cons, List.map_nil, List.length_cons, List.length_nil, List.getElem?_cons_zero, List.getElem?_cons_succ, List.getElem?_nil, List.set_cons_zero, List.set_cons_succ, List.cons_append, List.nil_append, List.append_nil, Nat.sub_self, Nat.zero_add, Nat.reduceAdd, Nat.reduceSub, Nat.add_one_sub_one, List.replicate_zero, List.replicate_succ, Option.map_some, if_true, if_false, decide_true, decide_false, Bool.not_true, Bool.not_false, Bool.true_or, Bool.false_or, Bool.or_true, Bool.or_false, Bool.true_and, Bool.false_and, Bool.and_true, Bool.and_false, beq_self_eq_true, opAdd, opSub, opNeg, opLt, opLe, opGt, opGe, opIx, fLen, fAbs, fMax2, fMin2, fIsi, tyN, fList, fTuple, fDictP, opCat, opCatT, lstC, fKeys, fKeysS, fSorted, xPairs, xDisp, xUpdate, sForK, gLp, fKeysT, opRevT, iEnumT, keyOf, keyV, opIsBl, opNotBl, dictK, st_NoneType_bool, st_NoneType_int, st_NoneType_str, st_NoneType_tuple, st_NoneType_list, st_NoneType_dict, st_bool_bool, st_bool_int, st_bool_str, st_bool_tuple, st_bool_list, st_bool_dict, st_int_bool, st_int_int, st_int_str, st_int_tuple, st_int_list, st_int_dict, st_str_bool, st_str_int, st_str_str, st_str_tuple, st_str_list, st_str_dict, st_tuple_bool, st_tuple_int, st_tuple_str, st_tuple_tuple, st_tuple_list, st_tuple_dict, st_list_bool, st_list_int, st_list_str, st_list_tuple, st_list_list, st_list_dict, st_dict_bool, st_dict_int, st_dict_str, st_dict_tuple, st_dict_list, st_dict_dict, mod_ok, mul_ok])
      exact this
    have tn : (((many : Nat) : Int)).toNat = many := by omega
    have rg := rng1_at (e := xVar 1) (s := [some (.ref d), some (.int (many : Nat)), some (.int n), some (.int y), none]) (h := h1) (h1 := h1) (j := (many : Nat)) rfl (by omega)
    rw [tn] at rg
    refine run_rt (b := b__law_names) (s := [some (.ref d), some (.int (many : Nat)), some (.int n), some (.int y), none]) ((seq_nx (s1 := [some (.ref d), some (.int (many : Nat)), some (.int n), none, none]) (h1 := h1) ?_).trans ((seq_nx (s1 := [some (.ref d), some (.int (many : Nat)), some (.int n), some (.int y), none]) (h1 := h1) ?_).trans ?_))
    · simp only [ews, en]
    · simp (discharger := omega) only [sSeq, sAsg, sIf, sRet, sRetN, sExpr, sNext, sPar, sPar3, sBk, sCt, sFor, sPut, gNm, gTp, gsCons, gsNil, xVar, xC, xOp, xUn, xCons, xNil, xArgs, xCall, xTup, xLst, xBox, boxM, xIf, xAnd, xOr, xNot, xB, xAndT, xOrT, xNotT, xAppend, xPop, xPopAt, xExtend, xExtendT, xSlL, xPart, xNoPart, iSeq, iRange1, iRange2, cYes, seqOf, listOf, isLstC, runDef, sBegin, List.map_cons, List.map_nil, List.length_cons, List.length_nil, List.getElem?_cons_zero, List.getElem?_cons_succ, List.getElem?_nil, List.set_cons_zero, List.set_cons_succ, List.cons_append, List.nil_append, List.append_nil, Nat.sub_self, Nat.zero_add, Nat.reduceAdd, Nat.reduceSub, Nat.add_one_sub_one, List.replicate_zero, List.replicate_succ, Option.map_some, if_true, if_false, decide_true, decide_false, Bool.not_true, Bool.not_false, Bool.true_or, Bool.false_or, Bool.or_true, Bool.or_false, Bool.true_and, Bool.false_and, Bool.and_true, Bool.and_false, beq_self_eq_true, opAdd, opSub, opNeg, opLt, opLe, opGt, opGe, opIx, fLen, fAbs, fMax2, fMin2, fIsi, tyN, fList, fTuple, fDictP, opCat, opCatT, lstC, fKeys, fKeysS, fSorted, xPairs, xDisp, xUpdate, sForK, gLp, fKeysT, opRevT, iEnumT, keyOf, keyV, opIsBl, opNotBl, dictK, st_NoneType_bool, st_NoneType_int, st_NoneType_str, st_NoneType_tuple, st_NoneType_list, st_NoneType_dict, st_bool_bool, st_bool_int, st_bool_str, st_bool_tuple, st_bool_list, st_bool_dict, st_int_bool, st_int_int, st_int_str, st_int_tuple, st_int_list, st_int_dict, st_str_bool, st_str_int, st_str_str, st_str_tuple, st_str_list, st_str_dict, st_tuple_bool, st_tuple_int, st_tuple_str, st_tuple_tuple, st_tuple_list, st_tuple_dict, st_list_bool, st_list_int, st_list_str, st_list_tuple, st_list_list, st_list_dict, st_dict_bool, st_dict_int, st_dict_str, st_dict_tuple, st_dict_list, st_dict_dict, div_ok, mod_ok, ey]
    · rw [List.map_map]
      exact ret_at (lc_at rg lc)

def b__law_behind : XS := (sSeq (sAsg (xOp opIx (xVar 0) (xVar 2)) (gNm 3))
    (sRet (xTup (xCons (xVar 2) (xCons (xOp opIx (xVar 3) (xOp opMod (xOp opAdd (xOp opIndexL (xVar 3) (xVar 1)) (xC (.int 1))) (xArgs fLen (xCons (xVar 3) xNil)))) xNil)))))
def g__law_behind : Fn := runDef 4 b__law_behind
theorem d__law_behind {x0 x1 x2 : MV} {h : MH} {R : MV → MH → Prop} (w : Wp (b__law_behind [some x0, some x1, some x2, none] h) fun f _ h1 => kR f fun v => R v h1) : We (g__law_behind [x0, x1, x2] h) R := we_def w

theorem behind_at (h : MH) (rows : MV) (u v : Int) (r : List Int) (e : opIx h rows (.int v) = some (.lst (r.map .int))) (hu : u ∈ r) : g__law_behind [rows, .int u, .int v] h = some (.tup [.int v, .int (nxt r u)], h) := by
  have hl : 0 < r.length := List.length_pos_of_mem hu
  have hi : r.idxOf u < r.length := List.idxOf_lt_length_iff.mpr hu
  have em : (((r.idxOf u : Nat) : Int) + 1) % ((r.length : Nat) : Int) = (((r.idxOf u + 1) % r.length : Nat) : Int) := by rw [Int.natCast_emod]; rfl
  have el : (r.idxOf u + 1) % r.length < r.length := Nat.mod_lt _ hl
  have ea : atM (r.map MV.int) (((r.idxOf u + 1) % r.length : Nat) : Int) = some (.int (nxt r u)) := at_nat (by
    rw [List.getElem?_map, nxt, List.getElem?_eq_getElem el]; rfl)
  refine run_rt (b := b__law_behind) (s := [some rows, some (.int u), some (.int v), some (.lst (r.map .int))]) ((seq_nx (s1 := [some rows, some (.int u), some (.int v), some (.lst (r.map .int))]) (h1 := h) ?_).trans ?_)
  · simp only [ewd, e]
  · simp (discharger := omega) only [sSeq, sAsg, sIf, sRet, sRetN, sExpr, sNext, sPar, sPar3, sBk, sCt, sFor, sPut, gNm, gTp, gsCons, gsNil, xVar, xC, xOp, xUn, xCons, xNil, xArgs, xCall, xTup, xLst, xBox, boxM, xIf, xAnd, xOr, xNot, xB, xAndT, xOrT, xNotT, xAppend, xPop, xPopAt, xExtend, xExtendT, xSlL, xPart, xNoPart, iSeq, iRange1, iRange2, cYes, seqOf, listOf, isLstC, runDef, sBegin, List.map_cons, List.map_nil, List.length_cons, List.length_nil, List.getElem?_cons_zero, List.getElem?_cons_succ, List.getElem?_nil, List.set_cons_zero, List.set_cons_succ, List.cons_append, List.nil_append, List.append_nil, Nat.sub_self, Nat.zero_add, Nat.reduceAdd, Nat.reduceSub, Nat.add_one_sub_one, List.replicate_zero, List.replicate_succ, Option.map_some, if_true, if_false, decide_true, decide_false, Bool.not_true, Bool.not_false, Bool.true_or, Bool.false_or, Bool.or_true, Bool.or_false, Bool.true_and, Bool.false_and, Bool.and_true, Bool.and_false, beq_self_eq_true, opAdd, opSub, opNeg, opLt, opLe, opGt, opGe, fLen, fAbs, fMax2, fMin2, fIsi, tyN, fList, fTuple, fDictP, opCat, opCatT, lstC, fKeys, fKeysS, fSorted, xPairs, xDisp, xUpdate, sForK, gLp, fKeysT, opRevT, iEnumT, keyOf, keyV, opIsBl, opNotBl, dictK, st_NoneType_bool, st_NoneType_int, st_NoneType_str, st_NoneType_tuple, st_NoneType_list, st_NoneType_dict, st_bool_bool, st_bool_int, st_bool_str, st_bool_tuple, st_bool_list, st_bool_dict, st_int_bool, st_int_int, st_int_str, st_int_tuple, st_int_list, st_int_dict, st_str_bool, st_str_int, st_str_str, st_str_tuple, st_str_list, st_str_dict, st_tuple_bool, st_tuple_int, st_tuple_str, st_tuple_tuple, st_tuple_list, st_tuple_dict, st_list_bool, st_list_int, st_list_str, st_list_tuple, st_list_list, st_list_dict, st_dict_bool, st_dict_int, st_dict_str, st_dict_tuple, st_dict_list, st_dict_dict, index_at hu, ix_l, List.length_map, mod_ok, em, ea]

def b__law_put_behind : XS := (sSeq (sAsg (xOp opAdd (xOp opIndexL (xVar 0) (xVar 1)) (xC (.int 1))) (gNm 3))
    (sRet (xCat (xCat (xSlL (xVar 0) xNoPart (xPart (xVar 3))) (xLst (xCons (xVar 2) xNil))) (xSlL (xVar 0) (xPart (xVar 3)) xNoPart))))
def g__law_put_behind : Fn := runDef 4 b__law_put_behind
theorem d__law_put_behind {x0 x1 x2 : MV} {h : MH} {R : MV → MH → Prop} (w : Wp (b__law_put_behind [some x0, some x1, some x2, none] h) fun f _ h1 => kR f fun v => R v h1) : We (g__law_put_behind [x0, x1, x2] h) R := we_def w

theorem put_behind_at (h : MH) (r : List Int) (a p : Int) (ha : a ∈ r) (hz : r.length < 1000) : g__law_put_behind [.lst (r.map .int), .int a, .int p] h = some (.lst ((ins r a p).map .int), h) := by
  have hi : r.idxOf a < r.length := List.idxOf_lt_length_iff.mpr ha
  have e1 : cutM (r.map MV.int) none (some (((r.idxOf a : Nat) : Int) + 1)) = (r.map MV.int).take (r.idxOf a + 1) := by
    rw [cut_to (by omega)]
    have : (((r.idxOf a : Nat) : Int) + 1).toNat = r.idxOf a + 1 := by omega
    rw [this]
  have e2 : cutM (r.map MV.int) (some (((r.idxOf a : Nat) : Int) + 1)) none = (r.map MV.int).drop (r.idxOf a + 1) := by
    rw [cut_from (by omega)]
    have : (((r.idxOf a : Nat) : Int) + 1).toNat = r.idxOf a + 1 := by omega
    rw [this]
  have z1 : ((r.map MV.int).take (r.idxOf a + 1)).length + 1 ≤ szLine := by rw [List.length_take, List.length_map]; unfold szLine; omega
  have z2 : ((r.map MV.int).take (r.idxOf a + 1) ++ [MV.int p]).length + ((r.map MV.int).drop (r.idxOf a + 1)).length ≤ szLine := by rw [List.length_append, List.length_take, List.length_drop, List.length_map]; simp only [List.length_singleton]; unfold szLine; omega
  have e3 : (ins r a p).map MV.int = (r.map MV.int).take (r.idxOf a + 1) ++ [.int p] ++ (r.map MV.int).drop (r.idxOf a + 1) := by
    unfold ins
    rw [List.map_append, List.map_append, List.map_take, List.map_drop]
    rfl
  rw [e3]
  refine run_rt (b := b__law_put_behind) (s := [some (.lst (r.map .int)), some (.int a), some (.int p), some (.int (((r.idxOf a : Nat) : Int) + 1))]) ((seq_nx (s1 := [some (.lst (r.map .int)), some (.int a), some (.int p), some (.int (((r.idxOf a : Nat) : Int) + 1))]) (h1 := h) ?_).trans ?_)
  · simp only [ewd, index_at ha]
  · simp only [ewd, e1, e2, z1, z2, if_true]

def b__law_stand_in : XS := (sSeq (sPut (xVar 0) (xVar 3) (xCall g__law_put_behind (xCons (xOp opIx (xVar 0) (xVar 3)) (xCons (xVar 2) (xCons (xVar 1) xNil)))))
    (sSeq (sPut (xVar 0) (xVar 4) (xCall g__law_put_behind (xCons (xOp opIx (xVar 0) (xVar 4)) (xCons (xVar 3) (xCons (xVar 1) xNil)))))
    (sSeq (sPut (xVar 0) (xVar 2) (xCall g__law_put_behind (xCons (xOp opIx (xVar 0) (xVar 2)) (xCons (xVar 4) (xCons (xVar 1) xNil)))))
    (sPut (xVar 0) (xVar 1) (xLst (xCons (xVar 3) (xCons (xVar 2) (xCons (xVar 4) xNil))))))))
def g__law_stand_in : Fn := runDef 5 b__law_stand_in
theorem d__law_stand_in {x0 x1 x2 x3 x4 : MV} {h : MH} {R : MV → MH → Prop} (w : Wp (b__law_stand_in [some x0, some x1, some x2, some x3, some x4] h) fun f _ h1 => kR f fun v => R v h1) : We (g__law_stand_in [x0, x1, x2, x3, x4] h) R := we_def w

theorem stand_at (h : MH) (m : Nat) (W : WL) (p x y z : Int) (rx ry rz : List Int) (e : h[m]? = some (.dK (rowsV W))) (ex : rowOf W x = some rx) (ey : rowOf W y = some ry) (ez : rowOf W z = some rz) (hx : x ∈ ry) (hy : y ∈ rz) (hz : z ∈ rx)
    (d1 : y ≠ x) (d2 : y ≠ z) (d3 : x ≠ z) (hW : W.length < 900) (lx : rx.length < 1000) (ly : ry.length < 1000) (lz : rz.length < 1000) : g__law_stand_in [.ref m, .int p, .int x, .int y, .int z] h = some (.non, h.set m (.dK (rowsV (standIn W p x y z rx ry rz)))) := by
  have hm : m < h.length := (List.getElem?_eq_some_iff.mp e).1
  have lp : ∀ (V : WL) (u : Int) (r : List Int), (putRow V u r).length ≤ V.length + 1 := fun V u r => by
    rw [← keys_len, ← keys_len, keys_put]; split
    · omega
    · rw [List.length_append]; simp
  have l1 := lp W y (ins ry x p)
  have l2 := lp (putRow W y (ins ry x p)) z (ins rz y p)
  have l3 := lp (putRow (putRow W y (ins ry x p)) z (ins rz y p)) x (ins rx z p)
  have g1 : ∀ V : WL, (h.set m (.dK (rowsV V)))[m]? = some (.dK (rowsV V)) := fun V => List.getElem?_set_self hm
  have s1 : ∀ (V U : WL), (h.set m (.dK (rowsV V))).set m (.dK (rowsV U)) = h.set m (.dK (rowsV U)) := fun V U => by simp
  have ez2 : rowOf (putRow W y (ins ry x p)) z = some rz := by rw [rowOf_put, if_neg (fun q => d2 q.symm)]; exact ez
  have ex2 : rowOf (putRow (putRow W y (ins ry x p)) z (ins rz y p)) x = some rx := by rw [rowOf_put, if_neg d3, rowOf_put, if_neg (fun q => d1 q.symm)]; exact ex
  have st1 : sPut (xVar 0) (xVar 3) (xCall g__law_put_behind (xCons (xOp opIx (xVar 0) (xVar 3)) (xCons (xVar 2) (xCons (xVar 1) xNil)))) [some (.ref m), some (.int p), some (.int x), some (.int y), some (.int z)] h = some (.nx, [some (.ref m), some (.int p), some (.int x), some (.int y), some (.int z)], h.set m (.dK (rowsV (putRow W y (ins ry x p))))) := by
    simp only [ewd, ix_rows e ey, put_behind_at h ry x p hx ly, put_rows e (show W.length < szLine by unfold szLine; omega)]
  have st2 : sPut (xVar 0) (xVar 4) (xCall g__law_put_behind (xCons (xOp opIx (xVar 0) (xVar 4)) (xCons (xVar 3) (xCons (xVar 1) xNil)))) [some (.ref m), some (.int p), some (.int x), some (.int y), some (.int z)] (h.set m (.dK (rowsV (putRow W y (ins ry x p))))) = some (.nx, [some (.ref m), some (.int p), some (.int x), some (.int y), some (.int z)], h.set m (.dK (rowsV (putRow (putRow W y (ins ry x p)) z (ins rz y p))))) := by
    simp only [ewd, ix_rows (g1 _) ez2, put_behind_at _ rz y p hy lz, put_rows (g1 _) (show (putRow W y (ins ry x p)).length < szLine by unfold szLine; omega), s1]
  have st3 : sPut (xVar 0) (xVar 2) (xCall g__law_put_behind (xCons (xOp opIx (xVar 0) (xVar 2)) (xCons (xVar 4) (xCons (xVar 1) xNil)))) [some (.ref m), some (.int p), some (.int x), some (.int y), some (.int z)] (h.set m (.dK (rowsV (putRow (putRow W y (ins ry x p)) z (ins rz y p))))) = some (.nx, [some (.ref m), some (.int p), some (.int x), some (.int y), some (.int z)], h.set m (.dK (rowsV (putRow (putRow (putRow W y (ins ry x p)) z (ins rz y p)) x (ins rx z p))))) := by
    simp only [ewd, ix_rows (g1 _) ex2, put_behind_at _ rx z p hz lx, put_rows (g1 _) (show (putRow (putRow W y (ins ry x p)) z (ins rz y p)).length < szLine by unfold szLine; omega), s1]
  have pr := put_rows (u := p) (r := [y, x, z]) (g1 (putRow (putRow (putRow W y (ins ry x p)) z (ins rz y p)) x (ins rx z p))) (show (putRow (putRow (putRow W y (ins ry x p)) z (ins rz y p)) x (ins rx z p)).length < szLine by unfold szLine; omega)
  rw [s1] at pr
  simp only [List.map_cons, List.map_nil] at pr
  refine run_nx (b := b__law_stand_in) (s := [some (.ref m), some (.int p), some (.int x), some (.int y), some (.int z)]) ((seq_nx st1).trans ((seq_nx st2).trans ((seq_nx st3).trans ?_)))
  simp only [ewd, pr]
  rfl
def B1__law_full : XS := (sSeq (sAsg (xOp opIx (xVar 6) (xOp opMod (xCall g__law_next (xCons (xVar 0) xNil)) (xArgs fLen (xCons (xVar 6) xNil)))) (gTp 2 (gsCons (gNm 8) (gsCons (gNm 9) gsNil))))
    (sSeq (sAsg (xOp opIx (xCall g__law_behind (xCons (xVar 5) (xCons (xVar 8) (xCons (xVar 9) xNil)))) (xC (.int 1))) (gNm 10))
    (sSeq (sExpr (xCall g__law_stand_in (xCons (xVar 5) (xCons (xVar 7) (xCons (xVar 8) (xCons (xVar 9) (xCons (xVar 10) xNil)))))))
    (sAsg (xCat (xVar 6) (xLst (xCons (xTup (xCons (xVar 8) (xCons (xVar 7) xNil))) (xCons (xTup (xCons (xVar 9) (xCons (xVar 7) xNil))) (xCons (xTup (xCons (xVar 10) (xCons (xVar 7) xNil))) (xCons (xTup (xCons (xVar 8) (xCons (xVar 9) xNil))) xNil)))))) (gNm 6)))))
def b__law_full : XS := (sSeq (sAsg (xSlL (xVar 1) xNoPart (xPart (xC (.int 3)))) (gLp 3 (gsCons (gNm 2) (gsCons (gNm 3) (gsCons (gNm 4) gsNil)))))
    (sSeq (sAsg (xBox (xDisp (((xVar 2), (xLst (xCons (xVar 3) (xCons (xVar 4) xNil)))) :: (((xVar 3), (xLst (xCons (xVar 4) (xCons (xVar 2) xNil)))) :: (((xVar 4), (xLst (xCons (xVar 2) (xCons (xVar 3) xNil)))) :: []))))) (gNm 5))
    (sSeq (sAsg (xLst (xCons (xTup (xCons (xVar 2) (xCons (xVar 3) xNil))) (xCons (xTup (xCons (xVar 3) (xCons (xVar 2) xNil))) xNil))) (gNm 6))
    (sSeq (sFor (iSeq (xSlL (xVar 1) (xPart (xC (.int 3))) xNoPart)) (gNm 7) B1__law_full)
    (sRet (xVar 5))))))
def g__law_full : Fn := runDef 11 b__law_full
theorem d__law_full {x0 x1 : MV} {h : MH} {R : MV → MH → Prop} (w : Wp (b__law_full [some x0, some x1, none, none, none, none, none, none, none, none, none] h) fun f _ h1 => kR f fun v => R v h1) : We (g__law_full [x0, x1] h) R := we_def w

def stepsV (S : List (Int × Int)) : List MV := S.map fun p => .tup [.int p.1, .int p.2]
theorem tri_merge {a b c : Int} (h1 : a ≠ b) (h2 : a ≠ c) (h3 : b ≠ c) : mergeM [] [(.inl a, .lst [.int b, .int c]), (.inl b, .lst [.int c, .int a]), (.inl c, .lst [.int a, .int b])] = rowsV (tri0 a b c) := by
  have e : mergeM [] [(.inl a, .lst [.int b, .int c]), (.inl b, .lst [.int c, .int a]), (.inl c, .lst [.int a, .int b])] = putM (putM (putM (rowsV []) (.inl a) (.lst ([b, c].map .int))) (.inl b) (.lst ([c, a].map .int))) (.inl c) (.lst ([a, b].map .int)) := rfl
  rw [e, putM_rows, putM_rows, putM_rows]
  simp [putRow, rowOf, tri0, h1, h2, h3]
theorem full_step (h : MH) (d : Nat) (hd : d < h.length) (ds : List Int) (hD : Drawn ds) (W : WL) (T : Tri W) (S : List (Int × Int)) (hS : S ≠ []) (hl : S.length < 10000) (hs : ∀ q ∈ S, ∃ rx, rowOf W q.1 = some rx ∧ q.2 ∈ rx) (k : Nat) (hk : k < 800) (hr : ∀ u r, rowOf W u = some r → r.length ≤ k) (hW : W.length < 900) (p : Int) (hp : p ∉ keysOf' W) (o1 o2 o3 o4 o8 o9 o10 : Option MV) :
    ∃ W' S' o8' o9' o10', B1__law_full [some (.ref d), o1, o2, o3, o4, some (.ref h.length), some (.lst (stepsV S)), some (.int p), o8, o9, o10] ((h.set d (.lst (ds.map .int))) ++ [.dK (rowsV W)])
      = some (.nx, [some (.ref d), o1, o2, o3, o4, some (.ref h.length), some (.lst (stepsV S')), some (.int p), o8', o9', o10'], (h.set d (.lst (ds.tail.map .int))) ++ [.dK (rowsV W')]) ∧
      Tri W' ∧ keysOf' W' = keysOf' W ++ [p] ∧ S' ≠ [] ∧ S'.length = S.length + 4 ∧ (∀ q ∈ S', ∃ rx, rowOf W' q.1 = some rx ∧ q.2 ∈ rx) ∧ (∀ u r, rowOf W' u = some r → r.length ≤ k + 3) ∧ (Grw W → Grw W') := by
  obtain ⟨n0, n1⟩ := hD.head
  have hd' : d < (h.set d (.lst (ds.map .int))).length := by simpa using hd
  have en := next_at ds d ((h.set d (.lst (ds.map .int))) ++ [.dK (rowsV W)]) (get_app (get_set hd))
  rw [set_app hd] at en
  generalize ds.headD 0 = n at n0 n1 en
  obtain ⟨⟨x, y⟩, hq, ep⟩ := pick (f := fun q : Int × Int => MV.tup [.int q.1, .int q.2]) n0 hS
  obtain ⟨rx, ex, hy⟩ := hs _ hq
  simp only at ex hy ep
  obtain ⟨ry, ey, _⟩ := T.sym x y rx ex hy
  obtain ⟨hx, rz, ez, hz, hyz, hzx, hxz, d1, d2, d3, f1, f2⟩ := T.corners ex hy ey
  obtain ⟨T', RO, KO⟩ := T.stand ex hy ey ez hp
  generalize hze : nxt ry x = z at *
  have gl : ∀ V : WL, ((h.set d (.lst (ds.tail.map .int))) ++ [.dK (rowsV V)])[h.length]? = some (.dK (rowsV V)) := fun V => get_end (by simp)
  have be := behind_at ((h.set d (.lst (ds.tail.map .int))) ++ [.dK (rowsV W)]) (.ref h.length) x y ry (ix_rows (gl W) ey) hx
  rw [hze] at be
  have l1 := hr x rx ex
  have l2 := hr y ry ey
  have l3 := hr z rz ez
  have sa := stand_at ((h.set d (.lst (ds.tail.map .int))) ++ [.dK (rowsV W)]) h.length W p x y z rx ry rz (gl W) ex ey ez hx hyz hzx d1 d2 d3 hW (by omega) (by omega) (by omega)
  rw [set_end (by simp)] at sa
  have sv : stepsV (S ++ [(x, p), (y, p), (z, p), (x, y)]) = stepsV S ++ [.tup [.int x, .int p], .tup [.int y, .int p], .tup [.int z, .int p], .tup [.int x, .int y]] := by simp [stepsV]
  have sl : (stepsV S).length = S.length := by simp [stepsV]
  have zl : S.length + 4 ≤ szLine := by unfold szLine; omega
  have hSl : 0 < S.length := List.length_pos_iff.mpr hS
  have hpx : x ≠ p := fun e => hp (by rw [← e]; exact rowOf_mem ex)
  have hpy : y ≠ p := fun e => hp (by rw [← e]; exact rowOf_mem ey)
  have hpz : z ≠ p := fun e => hp (by rw [← e]; exact rowOf_mem ez)
  have np : ∀ u r, rowOf W u = some r → p ∉ r := fun u r e q => by
    obtain ⟨r', e', _⟩ := T.sym u p r e q
    exact hp (rowOf_mem e')
  have Rx : rowOf (standIn W p x y z rx ry rz) x = some (ins rx z p) := by rw [RO, if_neg hpx, if_pos rfl]
  have Ry : rowOf (standIn W p x y z rx ry rz) y = some (ins ry x p) := by rw [RO, if_neg hpy, if_neg d1, if_neg d2, if_pos rfl]
  have Rz : rowOf (standIn W p x y z rx ry rz) z = some (ins rz y p) := by rw [RO, if_neg hpz, if_neg (fun e => d3 e.symm), if_pos rfl]
  refine ⟨standIn W p x y z rx ry rz, S ++ [(x, p), (y, p), (z, p), (x, y)], some (.int x), some (.int y), some (.int z), ?_, T', KO, by simp, by simp, ?_, ?_, fun g => by have := grw_stand T g ex hy ey (by rw [hze]; exact ez) hp; rw [hze] at this; exact this⟩
  · have st1 : sAsg (xOp opIx (xVar 6) (xOp opMod (xCall g__law_next (xCons (xVar 0) xNil)) (xArgs fLen (xCons (xVar 6) xNil)))) (gTp 2 (gsCons (gNm 8) (gsCons (gNm 9) gsNil))) [some (.ref d), o1, o2, o3, o4, some (.ref h.length), some (.lst (stepsV S)), some (.int p), o8, o9, o10] ((h.set d (.lst (ds.map .int))) ++ [.dK (rowsV W)]) = some (.nx, [some (.ref d), o1, o2, o3, o4, some (.ref h.length), some (.lst (stepsV S)), some (.int p), some (.int x), some (.int y), o10], (h.set d (.lst (ds.tail.map .int))) ++ [.dK (rowsV W)]) := by
      simp (discharger := omega) only [sSeq, sAsg, sIf, sRet, sRetN, sExpr, sNext, sPar, sPar3, sBk, sCt, sFor, sPut, gNm, gTp, gsCons, gsNil, xVar, xC, xOp, xUn, xCons, xNil, xArgs, xCall, xTup, xLst, xBox, boxM, xIf, xAnd, xOr, xNot, xB, xAndT, xOrT, xNotT, xAppend, xPop, xPopAt, xExtend, xExtendT, xSlL, xPart, xNoPart, iSeq, iRange1, iRange2, cYes, seqOf, listOf, isLstC, runDef, sBegin, List.map_cons, List.map_nil, List.length_cons, List.length_nil, List.getElem?_cons_zero, List.getElem?_cons_succ, List.getElem?_nil, List.set_cons_zero, List.set_cons_succ, List.cons_append, List.nil_append, List.append_nil, Nat.sub_self, Nat.zero_add, Nat.reduceAdd, Nat.reduceSub, Nat.add_one_sub_one, List.replicate_zero, List.replicate_succ, Option.map_some, if_true, if_false, decide_true, decide_false, Bool.not_true, Bool.not_false, Bool.true_or, Bool.false_or, Bool.or_true, Bool.or_false, Bool.true_and, Bool.false_and, Bool.and_true, Bool.and_false, beq_self_eq_true, opAdd, opSub, opNeg, opLt, opLe, opGt, opGe, fLen, fAbs, fMax2, fMin2, fIsi, tyN, fList, fTuple, fDictP, opCat, opCatT, lstC, fKeys, fKeysS, fSorted, xPairs, xDisp, xUpdate, sForK, gLp, fKeysT, opRevT, iEnumT, keyOf, keyV, opIsBl, opNotBl, dictK, st_NoneType_bool, st_NoneType_int, st_NoneType_str, st_NoneType_tuple, st_NoneType_list, st_NoneType_dict, st_bool_bool, st_bool_int, st_bool_str, st_bool_tuple, st_bool_list, st_bool_dict, st_int_bool, st_int_int, st_int_str, st_int_tuple, st_int_list, st_int_dict, st_str_bool, st_str_int, st_str_str, st_str_tuple, st_str_list, st_str_dict, st_tuple_bool, st_tuple_int, st_tuple_str, st_tuple_tuple, st_tuple_list, st_tuple_dict, st_list_bool, st_list_int, st_list_str, st_list_tuple, st_list_list, st_list_dict, st_dict_bool, st_dict_int, st_dict_str, st_dict_tuple, st_dict_list, st_dict_dict, en, sl, mod_ok, ix_l, show stepsV S = S.map (fun q : Int × Int => MV.tup [.int q.1, .int q.2]) from rfl, List.length_map, ep]
    have st2 : sAsg (xOp opIx (xCall g__law_behind (xCons (xVar 5) (xCons (xVar 8) (xCons (xVar 9) xNil)))) (xC (.int 1))) (gNm 10) [some (.ref d), o1, o2, o3, o4, some (.ref h.length), some (.lst (stepsV S)), some (.int p), some (.int x), some (.int y), o10] ((h.set d (.lst (ds.tail.map .int))) ++ [.dK (rowsV W)]) = some (.nx, [some (.ref d), o1, o2, o3, o4, some (.ref h.length), some (.lst (stepsV S)), some (.int p), some (.int x), some (.int y), some (.int z)], (h.set d (.lst (ds.tail.map .int))) ++ [.dK (rowsV W)]) := by
      simp only [ewd, be, ix_t, at_1]
    have st3 : sExpr (xCall g__law_stand_in (xCons (xVar 5) (xCons (xVar 7) (xCons (xVar 8) (xCons (xVar 9) (xCons (xVar 10) xNil)))))) [some (.ref d), o1, o2, o3, o4, some (.ref h.length), some (.lst (stepsV S)), some (.int p), some (.int x), some (.int y), some (.int z)] ((h.set d (.lst (ds.tail.map .int))) ++ [.dK (rowsV W)]) = some (.nx, [some (.ref d), o1, o2, o3, o4, some (.ref h.length), some (.lst (stepsV S)), some (.int p), some (.int x), some (.int y), some (.int z)], (h.set d (.lst (ds.tail.map .int))) ++ [.dK (rowsV (standIn W p x y z rx ry rz))]) := by
      simp only [ewd, sa]
    refine (seq_nx st1).trans ((seq_nx st2).trans ((seq_nx st3).trans ?_))
    simp only [ewd, sv, sl, zl, if_true]
  · intro q hq
    rcases List.mem_append.mp hq with h1 | h1
    · obtain ⟨r, er, hm⟩ := hs q h1
      have qp : q.1 ≠ p := fun e => hp (by rw [← e]; exact rowOf_mem er)
      rw [RO, if_neg qp]
      split
      · rename_i e; rw [e, ex] at er; cases er
        exact ⟨_, rfl, (mem_ins hzx (np x _ ex)).mpr (.inl hm)⟩
      · split
        · rename_i e; rw [e, ez] at er; cases er
          exact ⟨_, rfl, (mem_ins hyz (np z _ ez)).mpr (.inl hm)⟩
        · split
          · rename_i e; rw [e, ey] at er; cases er
            exact ⟨_, rfl, (mem_ins hx (np y _ ey)).mpr (.inl hm)⟩
          · exact ⟨r, er, hm⟩
    · simp only [List.mem_cons, List.not_mem_nil, or_false] at h1
      rcases h1 with rfl | rfl | rfl | rfl
      · exact ⟨_, Rx, (mem_ins hzx (np x rx ex)).mpr (.inr rfl)⟩
      · exact ⟨_, Ry, (mem_ins hx (np y ry ey)).mpr (.inr rfl)⟩
      · exact ⟨_, Rz, (mem_ins hyz (np z rz ez)).mpr (.inr rfl)⟩
      · exact ⟨_, Rx, (mem_ins hzx (np x rx ex)).mpr (.inl hy)⟩
  · intro u r e
    rw [RO] at e
    split at e
    · cases e; simp
    · split at e
      · cases e; rw [len_ins hzx (np x rx ex)]; omega
      · split at e
        · cases e; rw [len_ins hyz (np z rz ez)]; omega
        · split at e
          · cases e; rw [len_ins hx (np y ry ey)]; omega
          · have := hr u r e; omega
theorem full_grw (h : MH) (d : Nat) (ds : List Int) (e : h[d]? = some (.lst (ds.map .int))) (hD : Drawn ds) (ns : List Int) (hn : Names ns) (l3 : 3 ≤ ns.length) (l2 : ns.length ≤ 200) :
    ∃ W ds', Tri W ∧ Grw W ∧ keysOf' W = ns ∧ Drawn ds' ∧ (toldF g__law_full) [.ref d, .lst (ns.map .int)] h = some (.dK (rowsV W), h.set d (.lst (ds'.map .int))) := by
  have hd : d < h.length := (List.getElem?_eq_some_iff.mp e).1
  match ns, hn, l3, l2 with
  | a :: b :: c :: rest, hn, l3, l2 =>
    have nd := hn.1
    simp only [List.nodup_cons, List.mem_cons, not_or] at nd
    obtain ⟨⟨n1, n2, n3⟩, ⟨n4, n5⟩, n6, n7⟩ := nd
    have T0 := tri0_ok n1 n2 n4
    have hset : h = h.set d (.lst (ds.map .int)) := (set_same e).symm
    simp only [List.length_cons] at l2
    obtain ⟨s', h', eg, W, ds', S, o7, o8, o9, o10, rfl, rfl, T, G, K, D', S1, S2, S3, S4⟩ := forGo_run (g := gNm 7) (b := B1__law_full)
      (fun i s h1 => ∃ W ds' S o7 o8 o9 o10, s = [some (.ref d), some (.lst ((a :: b :: c :: rest).map .int)), some (.int a), some (.int b), some (.int c), some (.ref h.length), some (.lst (stepsV S)), o7, o8, o9, o10] ∧ h1 = (h.set d (.lst (ds'.map .int))) ++ [.dK (rowsV W)] ∧
        Tri W ∧ Grw W ∧ keysOf' W = (a :: b :: c :: rest).take (3 + i) ∧ Drawn ds' ∧ S ≠ [] ∧ S.length = 2 + 4 * i ∧ (∀ q ∈ S, ∃ rx, rowOf W q.1 = some rx ∧ q.2 ∈ rx) ∧ ∀ u r, rowOf W u = some r → r.length ≤ 2 + 3 * i)
      (rest.map .int) 0 [some (.ref d), some (.lst ((a :: b :: c :: rest).map .int)), some (.int a), some (.int b), some (.int c), some (.ref h.length), some (.lst (stepsV [(a, b), (b, a)])), none, none, none, none] ((h.set d (.lst (ds.map .int))) ++ [.dK (rowsV (tri0 a b c))])
      ⟨tri0 a b c, ds, [(a, b), (b, a)], none, none, none, none, rfl, rfl, T0, grw_tri0 n1 n2 n4, rfl, hD, by simp, by simp, by
        intro q hq
        simp only [List.mem_cons, List.not_mem_nil, or_false] at hq
        rcases hq with rfl | rfl
        · exact ⟨[b, c], by simp [tri0, rowOf], by simp⟩
        · exact ⟨[c, a], by simp [tri0, rowOf, n1], by simp⟩, by
        intro u r er
        have := mem_of_rowOf er
        simp only [tri0, List.mem_cons, List.not_mem_nil, or_false, Prod.mk.injEq] at this
        rcases this with ⟨_, rfl⟩ | ⟨_, rfl⟩ | ⟨_, rfl⟩ <;> simp⟩ (by
      rintro i x s h1 ex ⟨W, ds', S, o7, o8, o9, o10, rfl, rfl, T, G, K, D', S1, S2, S3, S4⟩
      rw [List.getElem?_map] at ex
      cases er : rest[i]? with
      | none => rw [er] at ex; cases ex
      | some p =>
        rw [er] at ex
        cases ex
        obtain ⟨hi, hpe⟩ := List.getElem?_eq_some_iff.mp er
        have e3 : (a :: b :: c :: rest)[3 + i]? = some p := by rw [Nat.add_comm 3 i]; exact er
        have K2 : (a :: b :: c :: rest).take (3 + (0 + i + 1)) = keysOf' W ++ [p] := by
          rw [K, show 3 + (0 + i + 1) = (3 + (0 + i)) + 1 by omega, List.take_add_one, show 3 + (0 + i) = 3 + i by omega, e3]
          rfl
        have hp : p ∉ keysOf' W := by
          have nd2 : ((a :: b :: c :: rest).take (3 + (0 + i + 1))).Nodup := hn.1.sublist (List.take_sublist _ _)
          rw [K2, List.nodup_append] at nd2
          exact fun hm => nd2.2.2 p hm p (by simp) rfl
        have hWl : W.length ≤ 3 + i := by rw [← keys_len, K, List.length_take]; omega
        obtain ⟨W', S', o8', o9', o10', g1, g2, g3, g4, g5, g6, g7, g8⟩ := full_step h d hd ds' D' W T S S1 (by omega) S3 (2 + 3 * (0 + i)) (by omega) S4 (by omega) p hp (some (.lst ((a :: b :: c :: rest).map .int))) (some (.int a)) (some (.int b)) (some (.int c)) o8 o9 o10
        exact ⟨_, _, .nx, _, _, rfl, g1, .inl rfl, W', ds'.tail, S', _, _, _, _, rfl, rfl, g2, g8 G, by rw [g3, K2], D'.tail, g4, by omega, g6, fun u r er => by have := g7 u r er; omega⟩)
    rw [Nat.zero_add] at K
    have K' : keysOf' W = a :: b :: c :: rest := by rw [K, List.take_of_length_le (by simp only [List.length_map, List.length_cons]; omega)]
    refine ⟨W, ds', T, G, K', D', ?_⟩
    have e1 : cutM (.int a :: .int b :: .int c :: rest.map MV.int) none (some 3) = [.int a, .int b, .int c] := by rw [cut_to (by omega)]; rfl
    have e2 : cutM (.int a :: .int b :: .int c :: rest.map MV.int) (some 3) none = rest.map .int := by rw [cut_from (by omega)]; rfl
    have tm := tri_merge n1 n2 n4
    have st1 : sAsg (xSlL (xVar 1) xNoPart (xPart (xC (.int 3)))) (gLp 3 (gsCons (gNm 2) (gsCons (gNm 3) (gsCons (gNm 4) gsNil)))) [some (.ref d), some (.lst ((a :: b :: c :: rest).map .int)), none, none, none, none, none, none, none, none, none] h = some (.nx, [some (.ref d), some (.lst ((a :: b :: c :: rest).map .int)), some (.int a), some (.int b), some (.int c), none, none, none, none, none, none], h) := by
      simp only [ewd, e1]
    have st2 : sAsg (xBox (xDisp (((xVar 2), (xLst (xCons (xVar 3) (xCons (xVar 4) xNil)))) :: (((xVar 3), (xLst (xCons (xVar 4) (xCons (xVar 2) xNil)))) :: (((xVar 4), (xLst (xCons (xVar 2) (xCons (xVar 3) xNil)))) :: []))))) (gNm 5) [some (.ref d), some (.lst ((a :: b :: c :: rest).map .int)), some (.int a), some (.int b), some (.int c), none, none, none, none, none, none] h = some (.nx, [some (.ref d), some (.lst ((a :: b :: c :: rest).map .int)), some (.int a), some (.int b), some (.int c), some (.ref h.length), none, none, none, none, none], h ++ [.dK (rowsV (tri0 a b c))]) := by
      simp (discharger := decide) only [sSeq, sAsg, sIf, sRet, sRetN, sExpr, sNext, sPar, sPar3, sBk, sCt, sFor, sPut, gNm, gTp, gsCons, gsNil, xVar, xC, xOp, xUn, xCons, xNil, xArgs, xCall, xTup, xLst, xBox, boxM, xIf, xAnd, xOr, xNot, xB, xAndT, xOrT, xNotT, xAppend, xPop, xPopAt, xExtend, xExtendT, xSlL, xPart, xNoPart, iSeq, iRange1, iRange2, cYes, seqOf, listOf, isLstC, runDef, sBegin, List.map_cons, List.map_nil, List.length_cons, List.length_nil, List.getElem?_cons_zero, List.getElem?_cons_succ, List.getElem?_nil, List.set_cons_zero, List.set_cons_succ, List.cons_append, List.nil_append, List.append_nil, Nat.sub_self, Nat.zero_add, Nat.reduceAdd, Nat.reduceSub, Nat.add_one_sub_one, List.replicate_zero, List.replicate_succ, Option.map_some, if_true, if_false, decide_true, decide_false, Bool.not_true, Bool.not_false, Bool.true_or, Bool.false_or, Bool.or_true, Bool.or_false, Bool.true_and, Bool.false_and, Bool.and_true, Bool.and_false, beq_self_eq_true, opAdd, opSub, opNeg, opLt, opLe, opGt, opGe, fLen, fAbs, fMax2, fMin2, fIsi, tyN, fList, fTuple, fDictP, opCat, opCatT, lstC, fKeys, fKeysS, fSorted, xPairs, xDisp, xUpdate, sForK, gLp, fKeysT, opRevT, iEnumT, keyOf, keyV, opIsBl, opNotBl, dictK, st_NoneType_bool, st_NoneType_int, st_NoneType_str, st_NoneType_tuple, st_NoneType_list, st_NoneType_dict, st_bool_bool, st_bool_int, st_bool_str, st_bool_tuple, st_bool_list, st_bool_dict, st_int_bool, st_int_int, st_int_str, st_int_tuple, st_int_list, st_int_dict, st_str_bool, st_str_int, st_str_str, st_str_tuple, st_str_list, st_str_dict, st_tuple_bool, st_tuple_int, st_tuple_str, st_tuple_tuple, st_tuple_list, st_tuple_dict, st_list_bool, st_list_int, st_list_str, st_list_tuple, st_list_list, st_list_dict, st_dict_bool, st_dict_int, st_dict_str, st_dict_tuple, st_dict_list, st_dict_dict, tm, if_pos]
    have st3 : sAsg (xLst (xCons (xTup (xCons (xVar 2) (xCons (xVar 3) xNil))) (xCons (xTup (xCons (xVar 3) (xCons (xVar 2) xNil))) xNil))) (gNm 6) [some (.ref d), some (.lst ((a :: b :: c :: rest).map .int)), some (.int a), some (.int b), some (.int c), some (.ref h.length), none, none, none, none, none] (h ++ [.dK (rowsV (tri0 a b c))]) = some (.nx, [some (.ref d), some (.lst ((a :: b :: c :: rest).map .int)), some (.int a), some (.int b), some (.int c), some (.ref h.length), some (.lst (stepsV [(a, b), (b, a)])), none, none, none, none], h ++ [.dK (rowsV (tri0 a b c))]) := by
      simp only [ewd, stepsV]
    have it : iSeq (xSlL (xVar 1) (xPart (xC (.int 3))) xNoPart) [some (.ref d), some (.lst ((a :: b :: c :: rest).map .int)), some (.int a), some (.int b), some (.int c), some (.ref h.length), some (.lst (stepsV [(a, b), (b, a)])), none, none, none, none] (h ++ [.dK (rowsV (tri0 a b c))]) = some (.vals (rest.map .int), h ++ [.dK (rowsV (tri0 a b c))]) := by
      simp only [ewd, e2]
    rw [← hset] at eg
    have raw : g__law_full [.ref d, .lst ((a :: b :: c :: rest).map .int)] h = some (.ref h.length, (h.set d (.lst (ds'.map .int))) ++ [.dK (rowsV W)]) :=
      run_rt (b := b__law_full) ((seq_nx st1).trans ((seq_nx st2).trans ((seq_nx st3).trans ((seq_nx ((for_at it).trans eg)).trans (ret_at rfl)))))
    exact toldF_dK raw (get_end (by simp)) (Nat.le_refl _) (plain_rows W) (by simp) (set_plain (plain_ints _))
theorem full_at (h : MH) (d : Nat) (ds : List Int) (e : h[d]? = some (.lst (ds.map .int))) (hD : Drawn ds) (ns : List Int) (hn : Names ns) (l3 : 3 ≤ ns.length) (l2 : ns.length ≤ 200) :
    ∃ W ds', Tri W ∧ keysOf' W = ns ∧ Drawn ds' ∧ (toldF g__law_full) [.ref d, .lst (ns.map .int)] h = some (.dK (rowsV W), h.set d (.lst (ds'.map .int))) := by
  obtain ⟨W, ds', T, _, r⟩ := full_grw h d ds e hD ns hn l3 l2
  exact ⟨W, ds', T, r⟩
theorem map_snoc (f : Int → List Int → List Int) (W : WL) (p : Int × List Int) : mapRows f (W ++ [p]) = mapRows f W ++ [(p.1, f p.1 p.2)] := by simp [mapRows]
--@fresh _law_thinned
def B1__law_thinned : XS := (sPut (xVar 4) (xVar 5) (xLc (iSeq (xOp opIx (xVar 1) (xVar 5))) (gNm 6) (xB (xOp opGe (xOp opMod (xCall g__law_mixed (xCons (xOp opAdd (xVar 3) (xArgs fMin2 (xCons (xVar 5) (xCons (xVar 6) xNil)))) (xCons (xArgs fMax2 (xCons (xVar 5) (xCons (xVar 6) xNil))) xNil))) (xC (.int 8))) (xVar 2))) (xVar 6) [6]))
def b__law_thinned : XS := (sSeq (sAsg (xCall g__law_next (xCons (xVar 0) xNil)) (gNm 3))
    (sSeq (sAsg (xBox (xC (.dK []))) (gNm 4))
    (sSeq (sForK 1 (gNm 5) B1__law_thinned)
    (sRet (xVar 4)))))
def g__law_thinned : Fn := runDef 7 b__law_thinned
theorem d__law_thinned {x0 x1 x2 : MV} {h : MH} {R : MV → MH → Prop} (w : Wp (b__law_thinned [some x0, some x1, some x2, none, none, none, none] h) fun f _ h1 => kR f fun v => R v h1) : We (g__law_thinned [x0, x1, x2] h) R := we_def w

def keptB (n u v share : Int) : Bool := decide (share ≤ mixOf (n + (if v < u then v else u)) (if v > u then v else u) % 8)
theorem kept_sym (n u v share : Int) : keptB n u v share = keptB n v u share := by
  unfold keptB
  have e1 : (if v < u then v else u) = (if u < v then u else v) := by split <;> split <;> omega
  have e2 : (if v > u then v else u) = (if u > v then u else v) := by split <;> split <;> omega
  rw [e1, e2]
theorem thinned_at (h : MH) (d : Nat) (ds : List Int) (e : h[d]? = some (.lst (ds.map .int))) (hD : Drawn ds) (W : WL) (w : Web W) (hn : Names (keysOf' W)) (hl : W.length ≤ 200) (hr : ∀ u r, rowOf W u = some r → r.length ≤ 1000) (share : Int) :
    ∃ n, (toldF g__law_thinned) [.ref d, .dK (rowsV W), .int share] h = some (.dK (rowsV (mapRows (fun u r => r.filter fun v => keptB n u v share) W)), h.set d (.lst (ds.tail.map .int))) := by
  have hd : d < h.length := (List.getElem?_eq_some_iff.mp e).1
  obtain ⟨n0, n1⟩ := hD.head
  have en := next_at ds d h e
  generalize ds.headD 0 = n at n0 n1 en
  have hh2 : (h.set d (.lst (ds.tail.map .int))).length = h.length := by simp
  generalize h2e : h.set d (.lst (ds.tail.map .int)) = h2 at en hh2 ⊢
  refine ⟨n, ?_⟩
  generalize hF : (fun (u : Int) (r : List Int) => r.filter fun v => keptB n u v share) = F
  obtain ⟨s', h', eg, o5, o6, rfl, rfl⟩ := forGo_run (g := gNm 5) (b := B1__law_thinned)
    (fun i s h1 => ∃ o5 o6, s = [some (.ref d), some (.dK (rowsV W)), some (.int share), some (.int n), some (.ref h2.length), o5, o6] ∧ h1 = h2 ++ [.dK (rowsV (mapRows F (W.take i)))])
    ((keysOf' W).map .int) 0 [some (.ref d), some (.dK (rowsV W)), some (.int share), some (.int n), some (.ref h2.length), none, none] (h2 ++ [.dK []]) ⟨none, none, rfl, rfl⟩ (by
    rintro i x s h1 ex ⟨o5, o6, rfl, rfl⟩
    rw [Nat.zero_add]
    rw [List.getElem?_map] at ex
    cases ew : W[i]? with
    | none =>
      have : (keysOf' W)[i]? = none := by unfold keysOf'; rw [List.getElem?_map, ew]; rfl
      rw [this] at ex; cases ex
    | some p =>
      obtain ⟨u, r⟩ := p
      have ek : (keysOf' W)[i]? = some u := by unfold keysOf'; rw [List.getElem?_map, ew]; rfl
      rw [ek] at ex; cases ex
      have eu : rowOf W u = some r := rowOf_of_mem w.nd (List.mem_of_getElem? ew)
      have hu := hn.2 u (rowOf_mem eu)
      have hv : ∀ v ∈ r, 0 ≤ v ∧ v < 1000 := fun v hm => by
        obtain ⟨r', e', _⟩ := w.sym u v r eu hm
        exact hn.2 v (rowOf_mem e')
      have lc := lcGo_gen (g := gNm 6) (c := xB (xOp opGe (xOp opMod (xCall g__law_mixed (xCons (xOp opAdd (xVar 3) (xArgs fMin2 (xCons (xVar 5) (xCons (xVar 6) xNil)))) (xCons (xArgs fMax2 (xCons (xVar 5) (xCons (xVar 6) xNil))) xNil))) (xC (.int 8))) (xVar 2))) (e := xVar 6)
        (s := [some (.ref d), some (.dK (rowsV W)), some (.int share), some (.int n), some (.ref h2.length), some (.int u), none]) (h := h2 ++ [.dK (rowsV (mapRows F (W.take i)))]) MV.int (fun v => keptB n u v share) MV.int r [] (by have := hr u r eu; rw [List.length_nil]; unfold szLine; omega) (fun v hm => by
          have hv' := hv v hm
          refine ⟨[some (.ref d), some (.dK (rowsV W)), some (.int share), some (.int n), some (.ref h2.length), some (.int u), some (.int v)], rfl, ?_, fun _ => rfl⟩
          have hx : -4611686018427387904 < (if v > u then v else u) ∧ (if v > u then v else u) < 4611686018427387904 := by split <;> omega
          simp (discharger := first | exact hx.1 | exact hx.2 | omega) only [sSeq, sAsg, sIf, sRet, sRetN, sExpr, sNext, sPar, sPar3, sBk, sCt, sFor, sPut, gNm, gTp, gsCons, gsNil, xVar, xC, xOp, xUn, xCons, xNil, xArgs, xCall, xTup, xLst, xBox, boxM, xIf, xAnd, xOr, xNot, xB, xAndT, xOrT, xNotT, xAppend, xPop, xPopAt, xExtend, xExtendT, xSlL, xPart, xNoPart, iSeq, iRange1, iRange2, cYes, seqOf, listOf, isLstC, runDef, sBegin, List.map_cons, List.map_nil, List.length_cons, List.length_nil, List.getElem?_cons_zero, List.getElem?_cons_succ, List.getElem?_nil, List.set_cons_zero, List.set_cons_succ, List.cons_append, List.nil_append, List.append_nil, Nat.sub_self, Nat.zero_add, Nat.reduceAdd, Nat.reduceSub, Nat.add_one_sub_one, List.replicate_zero, List.replicate_succ, Option.map_some, if_true, if_false, decide_true, decide_false, Bool.not_true, Bool.not_false, Bool.true_or, Bool.false_or, Bool.or_true, Bool.or_false, Bool.true_and, Bool.false_and, Bool.and_true, Bool.and_false, beq_self_eq_true, opAdd, opSub, opNeg, opLt, opLe, opGt, opGe, fLen, fAbs, fMax2, fMin2, fIsi, tyN, fList, fTuple, fDictP, opCat, opCatT, lstC, fKeys, fKeysS, fSorted, xPairs, xDisp, xUpdate, sForK, gLp, fKeysT, opRevT, iEnumT, keyOf, keyV, opIsBl, opNotBl, dictK, st_NoneType_bool, st_NoneType_int, st_NoneType_str, st_NoneType_tuple, st_NoneType_list, st_NoneType_dict, st_bool_bool, st_bool_int, st_bool_str, st_bool_tuple, st_bool_list, st_bool_dict, st_int_bool, st_int_int, st_int_str, st_int_tuple, st_int_list, st_int_dict, st_str_bool, st_str_int, st_str_str, st_str_tuple, st_str_list, st_str_dict, st_tuple_bool, st_tuple_int, st_tuple_str, st_tuple_tuple, st_tuple_list, st_tuple_dict, st_list_bool, st_list_int, st_list_str, st_list_tuple, st_list_list, st_list_dict, st_dict_bool, st_dict_int, st_dict_str, st_dict_tuple, st_dict_list, st_dict_dict, mixed_at, mod_ok, keptB])
      rw [List.nil_append] at lc
      have lw : (mapRows F (W.take i)).length < szLine := by simp only [mapRows, List.length_map, List.length_take]; unfold szLine; omega
      have pw := put_rows (h := h2 ++ [.dK (rowsV (mapRows F (W.take i)))]) (m := h2.length) (u := u) (r := F u r) (get_last) lw
      have nk : u ∉ keysOf' (mapRows F (W.take i)) := by
        rw [keys_map]
        intro hm
        have nd : (keysOf' (W.take (i + 1))).Nodup := by
          have : keysOf' (W.take (i + 1)) = (keysOf' W).take (i + 1) := by unfold keysOf'; rw [List.map_take]
          rw [this]; exact w.nd.sublist (List.take_sublist _ _)
        rw [take_snoc ew] at nd
        have : keysOf' (W.take i ++ [(u, r)]) = keysOf' (W.take i) ++ [u] := by simp [keysOf']
        rw [this, List.nodup_append] at nd
        exact nd.2.2 u hm u (by simp) rfl
      rw [put_app nk, set_last] at pw
      have mk : mapRows F (W.take (i + 1)) = mapRows F (W.take i) ++ [(u, F u r)] := by rw [take_snoc ew, map_snoc]
      refine ⟨_, _, .nx, [some (.ref d), some (.dK (rowsV W)), some (.int share), some (.int n), some (.ref h2.length), some (.int u), o6], h2 ++ [.dK (rowsV (mapRows F (W.take (i + 1))))], rfl, ?_, .inl rfl, some (.int u), o6, rfl, rfl⟩
      rw [mk]
      have hFu : F u r = r.filter fun v => keptB n u v share := by rw [← hF]
      rw [hFu] at pw ⊢
      have it : iSeq (xOp opIx (xVar 1) (xVar 5)) [some (.ref d), some (.dK (rowsV W)), some (.int share), some (.int n), some (.ref h2.length), some (.int u), o6] (h2 ++ [.dK (rowsV (mapRows F (W.take i)))]) = some (.vals (r.map .int), h2 ++ [.dK (rowsV (mapRows F (W.take i)))]) := by
        simp only [ewd, ix_rowsV eu]
      have lc2 := lc_at (own := [6]) it lc
      simp only [B1__law_thinned, sPut, lc2, xVar, List.set_cons_succ, List.set_cons_zero, gNm, List.getElem?_cons_succ, List.getElem?_cons_zero, pw])
  have hlen : (rowsV W).map (fun kv => keyV kv.1) = (keysOf' W).map .int := keysV_rows W
  have eW : W.take (0 + ((keysOf' W).map MV.int).length) = W := by rw [Nat.zero_add, List.length_map, keys_len, List.take_length]
  rw [eW] at eg
  have st1 : sAsg (xCall g__law_next (xCons (xVar 0) xNil)) (gNm 3) [some (.ref d), some (.dK (rowsV W)), some (.int share), none, none, none, none] h = some (.nx, [some (.ref d), some (.dK (rowsV W)), some (.int share), some (.int n), none, none, none], h2) := by
    simp only [ewd, en]
  have st2 : sAsg (xBox (xC (.dK []))) (gNm 4) [some (.ref d), some (.dK (rowsV W)), some (.int share), some (.int n), none, none, none] h2 = some (.nx, [some (.ref d), some (.dK (rowsV W)), some (.int share), some (.int n), some (.ref h2.length), none, none], h2 ++ [.dK []]) := rfl
  have fk := forK_at (n := 1) (g := gNm 5) (b := B1__law_thinned) (s := [some (.ref d), some (.dK (rowsV W)), some (.int share), some (.int n), some (.ref h2.length), none, none]) (h := h2 ++ [.dK []]) (kvs := rowsV W) rfl
  rw [hlen] at fk
  have raw : g__law_thinned [.ref d, .dK (rowsV W), .int share] h = some (.ref h2.length, h2 ++ [.dK (rowsV (mapRows F W))]) :=
    run_rt (b := b__law_thinned) ((seq_nx st1).trans ((seq_nx st2).trans ((seq_nx (fk.trans eg)).trans (ret_at rfl))))
  exact toldF_dK raw get_last (by omega) (plain_rows _) hh2 (by rw [← h2e]; exact set_plain (plain_ints _))
--@fresh _law_begun
def B1__law_begun : XS := (sSeq (sAsg (xOp opMod (xCall g__law_mixed (xCons (xVar 2) (xCons (xOp opAdd (xVar 6) (xC (.int 1))) xNil))) (xArgs fMax2 (xCons (xC (.int 1)) (xCons (xArgs fLen (xCons (xOp opIx (xVar 1) (xVar 6)) xNil)) xNil)))) (gNm 7))
    (sPut (xVar 3) (xVar 6) (xArgs fTuple (xCons (xCat (xSlL (xOp opIx (xVar 1) (xVar 6)) (xPart (xVar 7)) xNoPart) (xSlL (xOp opIx (xVar 1) (xVar 6)) xNoPart (xPart (xVar 7)))) xNil))))
def b__law_begun : XS := (sSeq (sAsg (xCall g__law_next (xCons (xVar 0) xNil)) (gNm 2))
    (sSeq (sAsg (xBox (xC (.dK []))) (gNm 3))
    (sSeq (sAsg (xUn fKeys (xVar 1)) (gNm 4))
    (sSeq (sAsg (xOp opMod (xVar 2) (xArgs fMax2 (xCons (xC (.int 1)) (xCons (xArgs fLen (xCons (xVar 4) xNil)) xNil)))) (gNm 5))
    (sSeq (sFor (iSeq (xCat (xSlL (xVar 4) (xPart (xVar 5)) xNoPart) (xSlL (xVar 4) xNoPart (xPart (xVar 5))))) (gNm 6) B1__law_begun)
    (sRet (xVar 3)))))))
def g__law_begun : Fn := runDef 8 b__law_begun
theorem d__law_begun {x0 x1 : MV} {h : MH} {R : MV → MH → Prop} (w : Wp (b__law_begun [some x0, some x1, none, none, none, none, none, none] h) fun f _ h1 => kR f fun v => R v h1) : We (g__law_begun [x0, x1] h) R := we_def w

def rotR (n u : Int) (r : List Int) : List Int := r.drop (mixOf n (u + 1) % (if (r.length : Int) > 1 then (r.length : Int) else 1)).toNat ++ r.take (mixOf n (u + 1) % (if (r.length : Int) > 1 then (r.length : Int) else 1)).toNat
theorem rot_perm {α : Type} (k : Nat) (r : List α) : (r.drop k ++ r.take k).Perm r := by
  have := List.perm_append_comm (l₁ := r.drop k) (l₂ := r.take k)
  rwa [List.take_append_drop] at this
theorem webs_snoc (W : WL) (u : Int) (r : List Int) : websV (W ++ [(u, r)]) = websV W ++ [(.inl u, .row (r.map .int))] := by simp [websV]
theorem begun_rot (h : MH) (d : Nat) (ds : List Int) (e : h[d]? = some (.lst (ds.map .int))) (hD : Drawn ds) (W : WL) (w : Web W) (hn : Names (keysOf' W)) (hl : W.length ≤ 200) (hr : ∀ u r, rowOf W u = some r → r.length ≤ 1000) (rows : MV) (hrow : ∀ h2 : MH, (∀ i c, i ≠ d → h[i]? = some c → h2[i]? = some c) → dictK h2 rows = some (rowsV W) ∧ ∀ u r, rowOf W u = some r → opIx h2 rows (.int u) = some (.lst (r.map .int))) :
    ∃ V, ((keysOf' V).Perm (keysOf' W) ∧ ∀ u r, rowOf W u = some r → ∃ k, rowOf V u = some (r.drop k ++ r.take k)) ∧ Web V ∧ Names (keysOf' V) ∧ V.length = W.length ∧ (toldF g__law_begun) [.ref d, rows] h = some (.dK (websV V), h.set d (.lst (ds.tail.map .int))) := by
  have hd : d < h.length := (List.getElem?_eq_some_iff.mp e).1
  obtain ⟨n0, n1⟩ := hD.head
  have en := next_at ds d h e
  generalize ds.headD 0 = n at n0 n1 en
  have hh2 : (h.set d (.lst (ds.tail.map .int))).length = h.length := by simp
  have keep : ∀ (t : MH), ∀ i c, i ≠ d → h[i]? = some c → ((h.set d (.lst (ds.tail.map .int))) ++ t)[i]? = some c := fun t i c ne ec => get_app (by rw [List.getElem?_set_ne (Ne.symm ne)]; exact ec)
  have rk := fun t => hrow _ (keep t)
  generalize h2e : h.set d (.lst (ds.tail.map .int)) = h2 at en hh2 rk ⊢
  obtain ⟨tn, htn, htl⟩ : ∃ tn : Nat, n % (if ((W.length : Nat) : Int) > 1 then ((W.length : Nat) : Int) else 1) = (tn : Int) ∧ True := by
    have : 0 ≤ n % (if ((W.length : Nat) : Int) > 1 then ((W.length : Nat) : Int) else 1) := Int.emod_nonneg _ (by split <;> omega)
    obtain ⟨k, hk⟩ := Int.eq_ofNat_of_zero_le this
    exact ⟨k, hk, True.intro⟩
  have hp := rot_perm tn W
  have lV : (W.drop tn ++ W.take tn).length = W.length := hp.length_eq
  have kV : keysOf' (W.drop tn ++ W.take tn) = (keysOf' W).drop tn ++ (keysOf' W).take tn := by simp [keysOf', List.map_drop, List.map_take]
  have ndV : (keysOf' (W.drop tn ++ W.take tn)).Nodup := by rw [kV]; exact (rot_perm tn (keysOf' W)).nodup_iff.mpr w.nd
  generalize hVe : W.drop tn ++ W.take tn = V0 at hp lV kV ndV
  obtain ⟨s', h', eg, o6, o7, rfl, rfl⟩ := forGo_run (g := gNm 6) (b := B1__law_begun)
    (fun i s h1 => ∃ o6 o7, s = [some (.ref d), some rows, some (.int n), some (.ref h2.length), some (.lst ((keysOf' W).map .int)), some (.int tn), o6, o7] ∧ h1 = h2 ++ [.dK (websV (mapRows (rotR n) (V0.take i)))])
    ((keysOf' V0).map .int) 0 [some (.ref d), some rows, some (.int n), some (.ref h2.length), some (.lst ((keysOf' W).map .int)), some (.int tn), none, none] (h2 ++ [.dK []]) ⟨none, none, rfl, rfl⟩ (by
    rintro i x s h1 ex ⟨o6, o7, rfl, rfl⟩
    rw [Nat.zero_add]
    rw [List.getElem?_map] at ex
    cases ew : V0[i]? with
    | none =>
      have : (keysOf' V0)[i]? = none := by unfold keysOf'; rw [List.getElem?_map, ew]; rfl
      rw [this] at ex; cases ex
    | some p =>
      obtain ⟨u, r⟩ := p
      have ek : (keysOf' V0)[i]? = some u := by unfold keysOf'; rw [List.getElem?_map, ew]; rfl
      rw [ek] at ex; cases ex
      have eu : rowOf W u = some r := rowOf_of_mem w.nd (hp.mem_iff.mp (List.mem_of_getElem? ew))
      have hu := hn.2 u (rowOf_mem eu)
      have lr := hr u r eu
      have ix := (rk [.dK (websV (mapRows (rotR n) (V0.take i)))]).2 u r eu
      have mx : 0 < (if ((r.length : Nat) : Int) > 1 then ((r.length : Nat) : Int) else 1) := by split <;> omega
      have at0 : 0 ≤ mixOf n (u + 1) % (if ((r.length : Nat) : Int) > 1 then ((r.length : Nat) : Int) else 1) := Int.emod_nonneg _ (by omega)
      have c1 := cut_from (xs := r.map MV.int) at0
      have c2 := cut_to (xs := r.map MV.int) at0
      have zl : ((r.map MV.int).drop (mixOf n (u + 1) % (if ((r.length : Nat) : Int) > 1 then ((r.length : Nat) : Int) else 1)).toNat).length + ((r.map MV.int).take (mixOf n (u + 1) % (if ((r.length : Nat) : Int) > 1 then ((r.length : Nat) : Int) else 1)).toNat).length ≤ szLine := by
        rw [List.length_drop, List.length_take, List.length_map]; unfold szLine; omega
      have er : (r.map MV.int).drop (mixOf n (u + 1) % (if ((r.length : Nat) : Int) > 1 then ((r.length : Nat) : Int) else 1)).toNat ++ (r.map MV.int).take (mixOf n (u + 1) % (if ((r.length : Nat) : Int) > 1 then ((r.length : Nat) : Int) else 1)).toNat = (rotR n u r).map MV.int := by
        unfold rotR
        rw [List.map_append, List.map_drop, List.map_take]
      have st1 : sAsg (xOp opMod (xCall g__law_mixed (xCons (xVar 2) (xCons (xOp opAdd (xVar 6) (xC (.int 1))) xNil))) (xArgs fMax2 (xCons (xC (.int 1)) (xCons (xArgs fLen (xCons (xOp opIx (xVar 1) (xVar 6)) xNil)) xNil)))) (gNm 7) [some (.ref d), some rows, some (.int n), some (.ref h2.length), some (.lst ((keysOf' W).map .int)), some (.int tn), some (.int u), o7] (h2 ++ [.dK (websV (mapRows (rotR n) (V0.take i)))])
          = some (.nx, [some (.ref d), some rows, some (.int n), some (.ref h2.length), some (.lst ((keysOf' W).map .int)), some (.int tn), some (.int u), some (.int (mixOf n (u + 1) % (if ((r.length : Nat) : Int) > 1 then ((r.length : Nat) : Int) else 1)))], h2 ++ [.dK (websV (mapRows (rotR n) (V0.take i)))]) := by
        simp (discharger := first | exact mx | omega) only [sSeq, sAsg, sIf, sRet, sRetN, sExpr, sNext, sPar, sPar3, sBk, sCt, sFor, sPut, gNm, gTp, gsCons, gsNil, xVar, xC, xOp, xUn, xCons, xNil, xArgs, xCall, xTup, xLst, xBox, boxM, xIf, xAnd, xOr, xNot, xB, xAndT, xOrT, xNotT, xAppend, xPop, xPopAt, xExtend, xExtendT, xSlL, xPart, xNoPart, iSeq, iRange1, iRange2, cYes, seqOf, listOf, isLstC, runDef, sBegin, List.map_cons, List.map_nil, List.length_cons, List.length_nil, List.getElem?_cons_zero, List.getElem?_cons_succ, List.getElem?_nil, List.set_cons_zero, List.set_cons_succ, List.cons_append, List.nil_append, List.append_nil, Nat.sub_self, Nat.zero_add, Nat.reduceAdd, Nat.reduceSub, Nat.add_one_sub_one, List.replicate_zero, List.replicate_succ, Option.map_some, if_true, if_false, decide_true, decide_false, Bool.not_true, Bool.not_false, Bool.true_or, Bool.false_or, Bool.or_true, Bool.or_false, Bool.true_and, Bool.false_and, Bool.and_true, Bool.and_false, beq_self_eq_true, opAdd, opSub, opNeg, opLt, opLe, opGt, opGe, fLen, fAbs, fMax2, fMin2, fIsi, tyN, fList, fTuple, fDictP, opCat, opCatT, lstC, fKeys, fKeysS, fSorted, xPairs, xDisp, xUpdate, sForK, gLp, fKeysT, opRevT, iEnumT, keyOf, keyV, opIsBl, opNotBl, dictK, st_NoneType_bool, st_NoneType_int, st_NoneType_str, st_NoneType_tuple, st_NoneType_list, st_NoneType_dict, st_bool_bool, st_bool_int, st_bool_str, st_bool_tuple, st_bool_list, st_bool_dict, st_int_bool, st_int_int, st_int_str, st_int_tuple, st_int_list, st_int_dict, st_str_bool, st_str_int, st_str_str, st_str_tuple, st_str_list, st_str_dict, st_tuple_bool, st_tuple_int, st_tuple_str, st_tuple_tuple, st_tuple_list, st_tuple_dict, st_list_bool, st_list_int, st_list_str, st_list_tuple, st_list_list, st_list_dict, st_dict_bool, st_dict_int, st_dict_str, st_dict_tuple, st_dict_list, st_dict_dict, mixed_at, ix, List.length_map, mod_ok]
      have nk : u ∉ keysOf' (mapRows (rotR n) (V0.take i)) := by
        rw [keys_map]
        intro hm
        have nd : (keysOf' (V0.take (i + 1))).Nodup := by
          have : keysOf' (V0.take (i + 1)) = (keysOf' V0).take (i + 1) := by unfold keysOf'; rw [List.map_take]
          rw [this]; exact ndV.sublist (List.take_sublist _ _)
        rw [take_snoc ew] at nd
        have : keysOf' (V0.take i ++ [(u, r)]) = keysOf' (V0.take i) ++ [u] := by simp [keysOf']
        rw [this, List.nodup_append] at nd
        exact nd.2.2 u hm u (by simp) rfl
      have lw : (mapRows (rotR n) (V0.take i)).length < szLine := by simp only [mapRows, List.length_map, List.length_take]; unfold szLine; omega
      have pw := put_webs (h := h2 ++ [.dK (websV (mapRows (rotR n) (V0.take i)))]) (m := h2.length) (u := u) (r := rotR n u r) get_last lw
      rw [put_app nk, set_last, ← er] at pw
      have mk : mapRows (rotR n) (V0.take (i + 1)) = mapRows (rotR n) (V0.take i) ++ [(u, rotR n u r)] := by rw [take_snoc ew, map_snoc]
      refine ⟨_, _, .nx, [some (.ref d), some rows, some (.int n), some (.ref h2.length), some (.lst ((keysOf' W).map .int)), some (.int tn), some (.int u), some (.int (mixOf n (u + 1) % (if ((r.length : Nat) : Int) > 1 then ((r.length : Nat) : Int) else 1)))], h2 ++ [.dK (websV (mapRows (rotR n) (V0.take (i + 1))))], rfl, (seq_nx st1).trans ?_, .inl rfl, some (.int u), _, rfl, rfl⟩
      rw [mk]
      simp only [ewd, ix, c1, c2, zl, if_true, pw])
  have eW : V0.take (0 + ((keysOf' V0).map MV.int).length) = V0 := by rw [Nat.zero_add, List.length_map, keys_len, List.take_length]
  rw [eW] at eg
  refine ⟨mapRows (rotR n) V0, ⟨by rw [keys_map, kV]; exact rot_perm _ _, fun u r e => ?_⟩, w.perm (rotR n) hp (fun u r => rot_perm _ r), ?_, by simp [mapRows, lV], ?_⟩
  · refine ⟨(mixOf n (u + 1) % (if (r.length : Int) > 1 then (r.length : Int) else 1)).toNat, ?_⟩
    rw [rowOf_map, rowOf_of_mem ndV (hp.mem_iff.mpr (mem_of_rowOf e)), Option.map_some]
    rfl
  · rw [keys_map]
    exact ⟨ndV, fun u hm => hn.2 u (by rw [kV] at hm; exact (rot_perm tn (keysOf' W)).mem_iff.mp hm)⟩
  · have kl : (keysOf' W).length = W.length := keys_len W
    have mx : 0 < (if ((W.length : Nat) : Int) > 1 then ((W.length : Nat) : Int) else 1) := by split <;> omega
    have st1 : sAsg (xCall g__law_next (xCons (xVar 0) xNil)) (gNm 2) [some (.ref d), some rows, none, none, none, none, none, none] h = some (.nx, [some (.ref d), some rows, some (.int n), none, none, none, none, none], h2) := by
      simp only [ewd, en]
    have st2 : sAsg (xBox (xC (.dK []))) (gNm 3) [some (.ref d), some rows, some (.int n), none, none, none, none, none] h2 = some (.nx, [some (.ref d), some rows, some (.int n), some (.ref h2.length), none, none, none, none], h2 ++ [.dK []]) := rfl
    have fk : fKeys (h2 ++ [.dK []]) rows = some (.lst ((keysOf' W).map .int)) := by
      unfold fKeys
      rw [(rk [.dK []]).1, Option.map_some, keysV_rows]
    have st3 : sAsg (xUn fKeys (xVar 1)) (gNm 4) [some (.ref d), some rows, some (.int n), some (.ref h2.length), none, none, none, none] (h2 ++ [.dK []]) = some (.nx, [some (.ref d), some rows, some (.int n), some (.ref h2.length), some (.lst ((keysOf' W).map .int)), none, none, none], h2 ++ [.dK []]) := set_at (un_at rfl fk)
    have st4 : sAsg (xOp opMod (xVar 2) (xArgs fMax2 (xCons (xC (.int 1)) (xCons (xArgs fLen (xCons (xVar 4) xNil)) xNil)))) (gNm 5) [some (.ref d), some rows, some (.int n), some (.ref h2.length), some (.lst ((keysOf' W).map .int)), none, none, none] (h2 ++ [.dK []]) = some (.nx, [some (.ref d), some rows, some (.int n), some (.ref h2.length), some (.lst ((keysOf' W).map .int)), some (.int tn), none, none], h2 ++ [.dK []]) := by
      simp (discharger := first | exact mx | omega) only [sSeq, sAsg, sIf, sRet, sRetN, sExpr, sNext, sPar, sPar3, sBk, sCt, sFor, sPut, gNm, gTp, gsCons, gsNil, xVar, xC, xOp, xUn, xCons, xNil, xArgs, xCall, xTup, xLst, xBox, boxM, xIf, xAnd, xOr, xNot, xB, xAndT, xOrT, xNotT, xAppend, xPop, xPopAt, xExtend, xExtendT, xSlL, xPart, xNoPart, iSeq, iRange1, iRange2, cYes, seqOf, listOf, isLstC, runDef, sBegin, List.map_cons, List.map_nil, List.length_cons, List.length_nil, List.getElem?_cons_zero, List.getElem?_cons_succ, List.getElem?_nil, List.set_cons_zero, List.set_cons_succ, List.cons_append, List.nil_append, List.append_nil, Nat.sub_self, Nat.zero_add, Nat.reduceAdd, Nat.reduceSub, Nat.add_one_sub_one, List.replicate_zero, List.replicate_succ, Option.map_some, if_true, if_false, decide_true, decide_false, Bool.not_true, Bool.not_false, Bool.true_or, Bool.false_or, Bool.or_true, Bool.or_false, Bool.true_and, Bool.false_and, Bool.and_true, Bool.and_false, beq_self_eq_true, opAdd, opSub, opNeg, opLt, opLe, opGt, opGe, fLen, fAbs, fMax2, fMin2, fIsi, tyN, fList, fTuple, fDictP, opCat, opCatT, lstC, fKeys, fKeysS, fSorted, xPairs, xDisp, xUpdate, sForK, gLp, fKeysT, opRevT, iEnumT, keyOf, keyV, opIsBl, opNotBl, dictK, st_NoneType_bool, st_NoneType_int, st_NoneType_str, st_NoneType_tuple, st_NoneType_list, st_NoneType_dict, st_bool_bool, st_bool_int, st_bool_str, st_bool_tuple, st_bool_list, st_bool_dict, st_int_bool, st_int_int, st_int_str, st_int_tuple, st_int_list, st_int_dict, st_str_bool, st_str_int, st_str_str, st_str_tuple, st_str_list, st_str_dict, st_tuple_bool, st_tuple_int, st_tuple_str, st_tuple_tuple, st_tuple_list, st_tuple_dict, st_list_bool, st_list_int, st_list_str, st_list_tuple, st_list_list, st_list_dict, st_dict_bool, st_dict_int, st_dict_str, st_dict_tuple, st_dict_list, st_dict_dict, List.length_map, kl, mod_ok, htn]
    have c1 := cut_from (xs := (keysOf' W).map MV.int) (i := (tn : Int)) (by omega)
    have c2 := cut_to (xs := (keysOf' W).map MV.int) (i := (tn : Int)) (by omega)
    have tt : ((tn : Nat) : Int).toNat = tn := by omega
    rw [tt] at c1 c2
    have zl : (((keysOf' W).map MV.int).drop tn).length + (((keysOf' W).map MV.int).take tn).length ≤ szLine := by
      rw [List.length_drop, List.length_take, List.length_map, kl]; unfold szLine; omega
    have er : ((keysOf' W).map MV.int).drop tn ++ ((keysOf' W).map MV.int).take tn = (keysOf' V0).map .int := by rw [kV, List.map_append, List.map_drop, List.map_take]
    have it : iSeq (xCat (xSlL (xVar 4) (xPart (xVar 5)) xNoPart) (xSlL (xVar 4) xNoPart (xPart (xVar 5)))) [some (.ref d), some rows, some (.int n), some (.ref h2.length), some (.lst ((keysOf' W).map .int)), some (.int tn), none, none] (h2 ++ [.dK []]) = some (.vals ((keysOf' V0).map .int), h2 ++ [.dK []]) := by
      simp only [ewd, c1, c2, zl, if_true, er]
    have raw : g__law_begun [.ref d, rows] h = some (.ref h2.length, h2 ++ [.dK (websV (mapRows (rotR n) V0))]) :=
      run_rt (b := b__law_begun) ((seq_nx st1).trans ((seq_nx st2).trans ((seq_nx st3).trans ((seq_nx st4).trans ((seq_nx ((for_at it).trans eg)).trans (ret_at rfl))))))
    exact toldF_dK raw get_last (by omega) (plain_webs _) hh2 (by rw [← h2e]; exact set_plain (plain_ints _))
theorem begun_at (h : MH) (d : Nat) (ds : List Int) (e : h[d]? = some (.lst (ds.map .int))) (hD : Drawn ds) (W : WL) (w : Web W) (hn : Names (keysOf' W)) (hl : W.length ≤ 200) (hr : ∀ u r, rowOf W u = some r → r.length ≤ 1000) (rows : MV) (hrow : ∀ h2 : MH, (∀ i c, i ≠ d → h[i]? = some c → h2[i]? = some c) → dictK h2 rows = some (rowsV W) ∧ ∀ u r, rowOf W u = some r → opIx h2 rows (.int u) = some (.lst (r.map .int))) :
    ∃ V, Web V ∧ Names (keysOf' V) ∧ V.length = W.length ∧ (toldF g__law_begun) [.ref d, rows] h = some (.dK (websV V), h.set d (.lst (ds.tail.map .int))) := by
  obtain ⟨V, _, r⟩ := begun_rot h d ds e hD W w hn hl hr rows hrow
  exact ⟨V, r⟩
--@told _law_flat
def B2__law_flat : XS := (sPut (xVar 5) (xVar 7) (xLst xNil))
def B1__law_flat : XS := (sIf (xB (xOp opLt (xArgs fLen (xCons (xVar 6) xNil)) (xC (.int 3)))) (sFor (iSeq (xVar 6)) (gNm 7) B2__law_flat) (sSeq (sAsg (xCall (toldF Ew.g__law_full) (xCons (xVar 0) (xCons (xVar 6) xNil))) (gNm 8))
    (sExpr (xUpdate (xVar 5) (xCall (toldF Ew.g__law_thinned) (xCons (xVar 0) (xCons (xVar 8) (xCons (xOp opIx (xLst (xCons (xC (.int 0)) (xCons (xC (.int 0)) (xCons (xC (.int 1)) (xCons (xC (.int 2)) (xCons (xC (.int 4)) (xCons (xC (.int 6)) (xCons (xC (.int 7)) (xCons (xC (.int 8)) xNil))))))))) (xOp opMod (xOp opDiv (xVar 2) (xC (.int 1000000))) (xC (.int 8)))) xNil))))))))
def b__law_flat : XS := (sSeq (sAsg (xCall g__law_next (xCons (xVar 0) xNil)) (gNm 2))
    (sSeq (sAsg (xCall g__law_names (xCons (xVar 0) (xCons (xOp opMod (xVar 2) (xOp opAdd (xVar 1) (xC (.int 1)))) xNil))) (gNm 3))
    (sSeq (sAsg (xArgs fLen (xCons (xVar 3) xNil)) (gNm 4))
    (sSeq (sIf (xB (xOp opEq (xOp opMod (xOp opDiv (xVar 2) (xC (.int 1000))) (xC (.int 4))) (xC (.int 0)))) (sAsg (xOp opMod (xOp opDiv (xVar 2) (xC (.int 4000))) (xOp opAdd (xArgs fLen (xCons (xVar 3) xNil)) (xC (.int 1)))) (gNm 4)) sNext)
    (sSeq (sAsg (xBox (xC (.dK []))) (gNm 5))
    (sSeq (sFor (iSeq (xLst (xCons (xSlL (xVar 3) xNoPart (xPart (xVar 4))) (xCons (xSlL (xVar 3) (xPart (xVar 4)) xNoPart) xNil)))) (gNm 6) B1__law_flat)
    (sRet (xCall (toldF Ew.g__law_begun) (xCons (xVar 0) (xCons (xVar 5) xNil))))))))))
def g__law_flat : Fn := runDef 9 b__law_flat
theorem d__law_flat {x0 x1 : MV} {h : MH} {R : MV → MH → Prop} (w : Wp (b__law_flat [some x0, some x1, none, none, none, none, none, none, none] h) fun f _ h1 => kR f fun v => R v h1) : We (g__law_flat [x0, x1] h) R := we_def w

theorem flat_part (h : MH) (d : Nat) (hd : d < h.length) (ds : List Int) (hD : Drawn ds) (W : WL) (w : Web W) (n : Int) (n0 : 0 ≤ n) (part : List Int) (hp : Names part) (hl : part.length ≤ 200) (hW : W.length ≤ 200) (hdis : ∀ u ∈ part, u ∉ keysOf' W) (o1 o3 o4 o7 o8 : Option MV) :
    ∃ V ds' o7' o8', Web (W ++ V) ∧ keysOf' V = part ∧ Drawn ds' ∧ (Web V ∧ Made V) ∧ B1__law_flat [some (.ref d), o1, some (.int n), o3, o4, some (.ref h.length), some (.lst (part.map .int)), o7, o8] ((h.set d (.lst (ds.map .int))) ++ [.dK (rowsV W)])
      = some (.nx, [some (.ref d), o1, some (.int n), o3, o4, some (.ref h.length), some (.lst (part.map .int)), o7', o8'], (h.set d (.lst (ds'.map .int))) ++ [.dK (rowsV (W ++ V))]) := by
  by_cases q : part.length < 3
  · obtain ⟨s', h', eg, o7', rfl, rfl⟩ := forGo_run (g := gNm 7) (b := B2__law_flat)
      (fun i s h1 => ∃ o7', s = [some (.ref d), o1, some (.int n), o3, o4, some (.ref h.length), some (.lst (part.map .int)), o7', o8] ∧ h1 = (h.set d (.lst (ds.map .int))) ++ [.dK (rowsV (W ++ (part.take i).map fun p => (p, [])))])
      (part.map .int) 0 [some (.ref d), o1, some (.int n), o3, o4, some (.ref h.length), some (.lst (part.map .int)), o7, o8] ((h.set d (.lst (ds.map .int))) ++ [.dK (rowsV W)]) ⟨o7, rfl, by simp⟩ (by
      rintro i x s h1 ex ⟨o7', rfl, rfl⟩
      rw [Nat.zero_add]
      rw [List.getElem?_map] at ex
      cases ep : part[i]? with
      | none => rw [ep] at ex; cases ex
      | some u =>
        rw [ep] at ex; cases ex
        have nk : u ∉ keysOf' (W ++ (part.take i).map fun p => (p, [])) := by
          rw [keys_app]
          intro hm
          rcases List.mem_append.mp hm with z | z
          · exact hdis u (List.mem_of_getElem? ep) z
          · have z' : u ∈ part.take i := by simpa [keysOf', Function.comp_def] using z
            have nd : (part.take (i + 1)).Nodup := hp.1.sublist (List.take_sublist _ _)
            rw [take_snoc ep, List.nodup_append] at nd
            exact nd.2.2 u z' u (by simp) rfl
        have lw : (W ++ (part.take i).map fun p => (p, ([] : List Int))).length < szLine := by rw [List.length_append, List.length_map, List.length_take]; unfold szLine; omega
        have pw := put_rows (h := (h.set d (.lst (ds.map .int))) ++ [.dK (rowsV (W ++ (part.take i).map fun p => (p, [])))]) (m := h.length) (u := u) (r := []) (get_end (by simp)) lw
        rw [put_app nk, set_end (by simp), List.append_assoc] at pw
        have mk : (part.take i).map (fun p => (p, ([] : List Int))) ++ [(u, [])] = (part.take (i + 1)).map fun p => (p, []) := by rw [take_snoc ep, List.map_append]; rfl
        rw [mk] at pw
        simp only [List.map_nil] at pw
        exact ⟨_, _, .nx, _, _, rfl, by simp only [ewd, B2__law_flat, pw], .inl rfl, some (.int u), rfl, rfl⟩)
    have eW : part.take (0 + (part.map MV.int).length) = part := by rw [Nat.zero_add, List.length_map, List.take_length]
    rw [eW] at eg
    refine ⟨part.map fun p => (p, []), ds, o7', o8, w.join (web_empties hp.1) (fun u hu hm => hdis u (by simpa [keysOf', Function.comp_def] using hm) hu), by simp [keysOf', Function.comp_def], hD, ⟨web_empties hp.1, .bare _ hp.1⟩, ?_⟩
    have ct : xB (xOp opLt (xArgs fLen (xCons (xVar 6) xNil)) (xC (.int 3))) [some (.ref d), o1, some (.int n), o3, o4, some (.ref h.length), some (.lst (part.map .int)), o7, o8] ((h.set d (.lst (ds.map .int))) ++ [.dK (rowsV W)]) = some (true, (h.set d (.lst (ds.map .int))) ++ [.dK (rowsV W)]) := by
      have : decide (((part.length : Nat) : Int) < 3) = true := decide_eq_true (by omega)
      simp only [ewd, List.length_map, this]
    have it : iSeq (xVar 6) [some (.ref d), o1, some (.int n), o3, o4, some (.ref h.length), some (.lst (part.map .int)), o7, o8] ((h.set d (.lst (ds.map .int))) ++ [.dK (rowsV W)]) = some (.vals (part.map .int), (h.set d (.lst (ds.map .int))) ++ [.dK (rowsV W)]) := by simp only [ewd]
    exact (if_t ct).trans ((for_at it).trans eg)
  · obtain ⟨V, ds1, T, G, K, D1, ef⟩ := full_grw ((h.set d (.lst (ds.map .int))) ++ [.dK (rowsV W)]) d ds (get_app (get_set hd)) hD part hp (by omega) hl
    rw [set_app hd] at ef
    have c8 : ∃ y : Int, atM [.int 0, .int 0, .int 1, .int 2, .int 4, .int 6, .int 7, .int 8] (n / 1000000 % 8) = some (.int y) := by
      have h4 : n / 1000000 % 8 = 0 ∨ n / 1000000 % 8 = 1 ∨ n / 1000000 % 8 = 2 ∨ n / 1000000 % 8 = 3 ∨ n / 1000000 % 8 = 4 ∨ n / 1000000 % 8 = 5 ∨ n / 1000000 % 8 = 6 ∨ n / 1000000 % 8 = 7 := by omega
      rcases h4 with q | q | q | q | q | q | q | q <;> rw [q] <;> exact ⟨_, rfl⟩
    obtain ⟨y, ey⟩ := c8
    have NV : Names (keysOf' V) := by rw [K]; exact hp
    have lV : V.length = part.length := by rw [← keys_len, K]
    obtain ⟨m, et⟩ := thinned_at ((h.set d (.lst (ds1.map .int))) ++ [.dK (rowsV W)]) d ds1 (get_app (get_set hd)) D1 V T.web NV (by omega) (fun u r e => T.web.len NV.2 e) y
    rw [set_app hd] at et
    generalize hVe : mapRows (fun u r => r.filter fun v => keptB m u v y) V = V2 at et
    have w2 : Web V2 := by rw [← hVe]; exact T.web.thin (fun u v => keptB m u v y) (fun u v => kept_sym m u v y)
    have K2 : keysOf' V2 = part := by rw [← hVe, keys_map, K]
    have l2 : V2.length = part.length := by rw [← keys_len, K2]
    have mg := merge_rows V2 W w2.nd (by rw [K2]; exact hdis)
    have zl : (rowsV W).length + (rowsV V2).length ≤ szLine := by simp only [rowsV, List.length_map]; unfold szLine; omega
    refine ⟨V2, ds1.tail, o7, some (.dK (rowsV V)), w.join w2 (fun u hu hm => hdis u (by rw [← K2]; exact hm) hu), K2, D1.tail, ⟨w2, hVe ▸ .thin V (fun u v => keptB m u v y) T G (fun z => by rw [z] at lV; simp at lV; omega) (fun u v => kept_sym m u v y)⟩, ?_⟩
    have ct : xB (xOp opLt (xArgs fLen (xCons (xVar 6) xNil)) (xC (.int 3))) [some (.ref d), o1, some (.int n), o3, o4, some (.ref h.length), some (.lst (part.map .int)), o7, o8] ((h.set d (.lst (ds.map .int))) ++ [.dK (rowsV W)]) = some (false, (h.set d (.lst (ds.map .int))) ++ [.dK (rowsV W)]) := by
      have : decide (((part.length : Nat) : Int) < 3) = false := decide_eq_false (by omega)
      simp only [ewd, List.length_map, this]
    have st1 : sAsg (xCall (toldF g__law_full) (xCons (xVar 0) (xCons (xVar 6) xNil))) (gNm 8) [some (.ref d), o1, some (.int n), o3, o4, some (.ref h.length), some (.lst (part.map .int)), o7, o8] ((h.set d (.lst (ds.map .int))) ++ [.dK (rowsV W)]) = some (.nx, [some (.ref d), o1, some (.int n), o3, o4, some (.ref h.length), some (.lst (part.map .int)), o7, some (.dK (rowsV V))], (h.set d (.lst (ds1.map .int))) ++ [.dK (rowsV W)]) := by
      simp only [ewd, ef]
    have g0 : ∀ U : List Int, ((h.set d (.lst (U.map .int))) ++ [.dK (rowsV W)])[h.length]? = some (.dK (rowsV W)) := fun U => get_end (by simp)
    have ar : xCons (xVar 0) (xCons (xVar 8) (xCons (xOp opIx (xLst (xCons (xC (.int 0)) (xCons (xC (.int 0)) (xCons (xC (.int 1)) (xCons (xC (.int 2)) (xCons (xC (.int 4)) (xCons (xC (.int 6)) (xCons (xC (.int 7)) (xCons (xC (.int 8)) xNil))))))))) (xOp opMod (xOp opDiv (xVar 2) (xC (.int 1000000))) (xC (.int 8)))) xNil)) [some (.ref d), o1, some (.int n), o3, o4, some (.ref h.length), some (.lst (part.map .int)), o7, some (.dK (rowsV V))] ((h.set d (.lst (ds1.map .int))) ++ [.dK (rowsV W)]) = some ([.ref d, .dK (rowsV V), .int y], (h.set d (.lst (ds1.map .int))) ++ [.dK (rowsV W)]) := by
      simp (discharger := omega) only [sSeq, sAsg, sIf, sRet, sRetN, sExpr, sNext, sPar, sPar3, sBk, sCt, sFor, sPut, gNm, gTp, gsCons, gsNil, xVar, xC, xOp, xUn, xCons, xNil, xArgs, xCall, xTup, xLst, xBox, boxM, xIf, xAnd, xOr, xNot, xB, xAndT, xOrT, xNotT, xAppend, xPop, xPopAt, xExtend, xExtendT, xSlL, xPart, xNoPart, iSeq, iRange1, iRange2, cYes, seqOf, listOf, isLstC, runDef, sBegin, List.map_cons, List.map_nil, List.length_cons, List.length_nil, List.getElem?_cons_zero, List.getElem?_cons_succ, List.getElem?_nil, List.set_cons_zero, List.set_cons_succ, List.cons_append, List.nil_append, List.append_nil, Nat.sub_self, Nat.zero_add, Nat.reduceAdd, Nat.reduceSub, Nat.add_one_sub_one, List.replicate_zero, List.replicate_succ, Option.map_some, if_true, if_false, decide_true, decide_false, Bool.not_true, Bool.not_false, Bool.true_or, Bool.false_or, Bool.or_true, Bool.or_false, Bool.true_and, Bool.false_and, Bool.and_true, Bool.and_false, beq_self_eq_true, opAdd, opSub, opNeg, opLt, opLe, opGt, opGe, fLen, fAbs, fMax2, fMin2, fIsi, tyN, fList, fTuple, fDictP, opCat, opCatT, lstC, fKeys, fKeysS, fSorted, xPairs, xDisp, xUpdate, sForK, gLp, fKeysT, opRevT, iEnumT, keyOf, keyV, opIsBl, opNotBl, dictK, st_NoneType_bool, st_NoneType_int, st_NoneType_str, st_NoneType_tuple, st_NoneType_list, st_NoneType_dict, st_bool_bool, st_bool_int, st_bool_str, st_bool_tuple, st_bool_list, st_bool_dict, st_int_bool, st_int_int, st_int_str, st_int_tuple, st_int_list, st_int_dict, st_str_bool, st_str_int, st_str_str, st_str_tuple, st_str_list, st_str_dict, st_tuple_bool, st_tuple_int, st_tuple_str, st_tuple_tuple, st_tuple_list, st_tuple_dict, st_list_bool, st_list_int, st_list_str, st_list_tuple, st_list_list, st_list_dict, st_dict_bool, st_dict_int, st_dict_str, st_dict_tuple, st_dict_list, st_dict_dict, div_ok, mod_ok, ix_l, ey]
    refine (if_f ct).trans ((seq_nx st1).trans ?_)
    simp only [sExpr, xUpdate, xCall, ar, et, xVar, List.getElem?_cons_succ, List.getElem?_cons_zero, g0, zl, if_true, mg, set_end (show (h.set d (.lst (ds1.tail.map .int))).length = h.length by simp)]
theorem flat_made (h : MH) (d : Nat) (ds : List Int) (e : h[d]? = some (.lst (ds.map .int))) (hD : Drawn ds) (most : Int) (m0 : 0 ≤ most) (m1 : most ≤ 200) :
    ∃ V ds', Web V ∧ Names (keysOf' V) ∧ (V.length : Int) ≤ most ∧ Drawn ds' ∧ Made V ∧ (toldV g__law_flat) [.ref d, .int most] h = some (.dK (websV V), h.set d (.lst (ds'.map .int))) := by
  have hd : d < h.length := (List.getElem?_eq_some_iff.mp e).1
  obtain ⟨n0, n1⟩ := hD.head
  have en := next_at ds d h e
  generalize ds.headD 0 = n at n0 n1 en
  have D1 := hD.tail
  generalize ds.tail = ds1 at D1 en
  obtain ⟨mn, hmn, hml⟩ : ∃ mn : Nat, n % (most + 1) = (mn : Int) ∧ (mn : Int) ≤ most := by
    have a1 := Int.emod_nonneg n (show most + 1 ≠ 0 by omega)
    have a2 := Int.emod_lt_of_pos n (show 0 < most + 1 by omega)
    obtain ⟨k, hk⟩ := Int.eq_ofNat_of_zero_le a1
    exact ⟨k, hk, by omega⟩
  obtain ⟨ns, hns, lns, ens⟩ := names_at ds1 d (h.set d (.lst (ds1.map .int))) (get_set hd) D1 mn (by omega)
  rw [List.set_set] at ens
  have D2 := D1.tail
  generalize ds1.tail = ds2 at D2 ens
  -- where it is cut
  obtain ⟨ct, hct⟩ : ∃ ct : Nat, (if n / 1000 % 4 = 0 then n / 4000 % ((ns.length : Int) + 1) else (ns.length : Int)) = (ct : Int) := by
    have a1 := Int.emod_nonneg (n / 4000) (show ((ns.length : Nat) : Int) + 1 ≠ 0 by omega)
    split
    · obtain ⟨k, hk⟩ := Int.eq_ofNat_of_zero_le a1; exact ⟨k, hk⟩
    · exact ⟨ns.length, rfl⟩
  have c1 := cut_to (xs := ns.map MV.int) (i := (ct : Int)) (by omega)
  have c2 := cut_from (xs := ns.map MV.int) (i := (ct : Int)) (by omega)
  have tt : ((ct : Nat) : Int).toNat = ct := by omega
  rw [tt, ← List.map_take] at c1
  rw [tt, ← List.map_drop] at c2
  have p1 : Names (ns.take ct) := ⟨hns.1.sublist (List.take_sublist _ _), fun u hu => hns.2 u (List.mem_of_mem_take hu)⟩
  have p2 : Names (ns.drop ct) := ⟨hns.1.sublist (List.drop_sublist _ _), fun u hu => hns.2 u (List.mem_of_mem_drop hu)⟩
  have lt1 : (ns.take ct).length ≤ 200 := by rw [List.length_take]; omega
  have lt2 : (ns.drop ct).length ≤ 200 := by rw [List.length_drop]; omega
  obtain ⟨V1, d1, o7, o8, w1, k1, E1, ⟨u1, m1⟩, s1⟩ := flat_part h d hd ds2 D2 [] web_nil n n0 (ns.take ct) p1 lt1 (by simp) (fun u _ => by simp [keysOf']) (some (.int most)) (some (.lst (ns.map .int))) (some (.int (ct : Nat))) none none
  rw [List.nil_append] at w1 s1
  have lv1 : V1.length ≤ 200 := by rw [← keys_len, k1]; exact lt1
  have dis : ∀ u ∈ ns.drop ct, u ∉ keysOf' V1 := fun u hu hm => by
    rw [k1] at hm
    have nd := hns.1
    rw [← List.take_append_drop ct ns, List.nodup_append] at nd
    exact nd.2.2 u hm u hu rfl
  obtain ⟨V2, d2, o7', o8', w2, k2, E2, ⟨u2, m2⟩, s2⟩ := flat_part h d hd d1 E1 V1 w1 n n0 (ns.drop ct) p2 lt2 lv1 dis (some (.int most)) (some (.lst (ns.map .int))) (some (.int (ct : Nat))) o7 o8
  have kw : keysOf' (V1 ++ V2) = ns := by rw [keys_app, k1, k2, List.take_append_drop]
  have lw : (V1 ++ V2).length = ns.length := by rw [← keys_len, kw]
  have nw : Names (keysOf' (V1 ++ V2)) := by rw [kw]; exact hns
  have cell : ((h.set d (.lst (d2.map .int))) ++ [.dK (rowsV (V1 ++ V2))])[h.length]? = some (.dK (rowsV (V1 ++ V2))) := get_end (by simp)
  obtain ⟨V, tV, wV, nV, lV, eb⟩ := begun_rot ((h.set d (.lst (d2.map .int))) ++ [.dK (rowsV (V1 ++ V2))]) d d2 (get_app (get_set hd)) E2 (V1 ++ V2) w2 nw (by omega) (fun u r e => w2.len nw.2 e) (.ref h.length) (fun h2 hk => by
    have c2 := hk h.length _ (by omega) cell
    exact ⟨by simp only [dictK, c2], fun u r er => ix_rows c2 er⟩)
  rw [set_app hd] at eb
  refine ⟨V, d2.tail, wV, nV, by omega, E2.tail, .turn (V1 ++ V2) V w2 tV.1 tV.2 (.join V1 V2 u1 u2 (fun u a b => dis u (k2 ▸ b) a) m1 m2), ?_⟩
  have st1 : sAsg (xCall g__law_next (xCons (xVar 0) xNil)) (gNm 2) [some (.ref d), some (.int most), none, none, none, none, none, none, none] h = some (.nx, [some (.ref d), some (.int most), some (.int n), none, none, none, none, none, none], h.set d (.lst (ds1.map .int))) := by
    simp only [ewd, en]
  have st2 : sAsg (xCall g__law_names (xCons (xVar 0) (xCons (xOp opMod (xVar 2) (xOp opAdd (xVar 1) (xC (.int 1)))) xNil))) (gNm 3) [some (.ref d), some (.int most), some (.int n), none, none, none, none, none, none] (h.set d (.lst (ds1.map .int))) = some (.nx, [some (.ref d), some (.int most), some (.int n), some (.lst (ns.map .int)), none, none, none, none, none], h.set d (.lst (ds2.map .int))) := by
    simp (discharger := omega) only [sSeq, sAsg, sIf, sRet, sRetN, sExpr, sNext, sPar, sPar3, sBk, sCt, sFor, sPut, gNm, gTp, gsCons, gsNil, xVar, xC, xOp, xUn, xCons, xNil, xArgs, xCall, xTup, xLst, xBox, boxM, xIf, xAnd, xOr, xNot, xB, xAndT, xOrT, xNotT, xAppend, xPop, xPopAt, xExtend, xExtendT, xSlL, xPart, xNoPart, iSeq, iRange1, iRange2, cYes, seqOf, listOf, isLstC, runDef, sBegin, List.map_cons, List.map_nil, List.length_cons, List.length_nil, List.getElem?_cons_zero, List.getElem?_cons_succ, List.getElem?_nil, List.set_cons_zero, List.set_cons_succ, List.cons_append, List.nil_append, List.append_nil, Nat.sub_self, Nat.zero_add, Nat.reduceAdd, Nat.reduceSub, Nat.add_one_sub_one, List.replicate_zero, List.replicate_succ, Option.map_some, if_true, if_false, decide_true, decide_false, Bool.not_true, Bool.not_false, Bool.true_or, Bool.false_or, Bool.or_true, Bool.or_false, Bool.true_and, Bool.false_and, Bool.and_true, Bool.and_false, beq_self_eq_true, opAdd, opSub, opNeg, opLt, opLe, opGt, opGe, fLen, fAbs, fMax2, fMin2, fIsi, tyN, fList, fTuple, fDictP, opCat, opCatT, lstC, fKeys, fKeysS, fSorted, xPairs, xDisp, xUpdate, sForK, gLp, fKeysT, opRevT, iEnumT, keyOf, keyV, opIsBl, opNotBl, dictK, st_NoneType_bool, st_NoneType_int, st_NoneType_str, st_NoneType_tuple, st_NoneType_list, st_NoneType_dict, st_bool_bool, st_bool_int, st_bool_str, st_bool_tuple, st_bool_list, st_bool_dict, st_int_bool, st_int_int, st_int_str, st_int_tuple, st_int_list, st_int_dict, st_str_bool, st_str_int, st_str_str, st_str_tuple, st_str_list, st_str_dict, st_tuple_bool, st_tuple_int, st_tuple_str, st_tuple_tuple, st_tuple_list, st_tuple_dict, st_list_bool, st_list_int, st_list_str, st_list_tuple, st_list_list, st_list_dict, st_dict_bool, st_dict_int, st_dict_str, st_dict_tuple, st_dict_list, st_dict_dict, mod_ok, hmn, ens]
  have st3 : sAsg (xArgs fLen (xCons (xVar 3) xNil)) (gNm 4) [some (.ref d), some (.int most), some (.int n), some (.lst (ns.map .int)), none, none, none, none, none] (h.set d (.lst (ds2.map .int))) = some (.nx, [some (.ref d), some (.int most), some (.int n), some (.lst (ns.map .int)), some (.int (ns.length : Nat)), none, none, none, none], h.set d (.lst (ds2.map .int))) := by
    simp only [ewd, List.length_map]
  have st4 : sIf (xB (xOp opEq (xOp opMod (xOp opDiv (xVar 2) (xC (.int 1000))) (xC (.int 4))) (xC (.int 0)))) (sAsg (xOp opMod (xOp opDiv (xVar 2) (xC (.int 4000))) (xOp opAdd (xArgs fLen (xCons (xVar 3) xNil)) (xC (.int 1)))) (gNm 4)) sNext [some (.ref d), some (.int most), some (.int n), some (.lst (ns.map .int)), some (.int (ns.length : Nat)), none, none, none, none] (h.set d (.lst (ds2.map .int))) = some (.nx, [some (.ref d), some (.int most), some (.int n), some (.lst (ns.map .int)), some (.int (ct : Nat)), none, none, none, none], h.set d (.lst (ds2.map .int))) := by
    by_cases q : n / 1000 % 4 = 0
    · rw [if_pos q] at hct
      simp (discharger := omega) only [sSeq, sAsg, sIf, sRet, sRetN, sExpr, sNext, sPar, sPar3, sBk, sCt, sFor, sPut, gNm, gTp, gsCons, gsNil, xVar, xC, xOp, xUn, xCons, xNil, xArgs, xCall, xTup, xLst, xBox, boxM, xIf, xAnd, xOr, xNot, xB, xAndT, xOrT, xNotT, xAppend, xPop, xPopAt, xExtend, xExtendT, xSlL, xPart, xNoPart, iSeq, iRange1, iRange2, cYes, seqOf, listOf, isLstC, runDef, sBegin, List.map_cons, List.map_nil, List.length_cons, List.length_nil, List.getElem?_cons_zero, List.getElem?_cons_succ, List.getElem?_nil, List.set_cons_zero, List.set_cons_succ, List.cons_append, List.nil_append, List.append_nil, Nat.sub_self, Nat.zero_add, Nat.reduceAdd, Nat.reduceSub, Nat.add_one_sub_one, List.replicate_zero, List.replicate_succ, Option.map_some, if_true, if_false, decide_true, decide_false, Bool.not_true, Bool.not_false, Bool.true_or, Bool.false_or, Bool.or_true, Bool.or_false, Bool.true_and, Bool.false_and, Bool.and_true, Bool.and_false, beq_self_eq_true, opAdd, opSub, opNeg, opLt, opLe, opGt, opGe, fLen, fAbs, fMax2, fMin2, fIsi, tyN, fList, fTuple, fDictP, opCat, opCatT, lstC, fKeys, fKeysS, fSorted, xPairs, xDisp, xUpdate, sForK, gLp, fKeysT, opRevT, iEnumT, keyOf, keyV, opIsBl, opNotBl, dictK, st_NoneType_bool, st_NoneType_int, st_NoneType_str, st_NoneType_tuple, st_NoneType_list, st_NoneType_dict, st_bool_bool, st_bool_int, st_bool_str, st_bool_tuple, st_bool_list, st_bool_dict, st_int_bool, st_int_int, st_int_str, st_int_tuple, st_int_list, st_int_dict, st_str_bool, st_str_int, st_str_str, st_str_tuple, st_str_list, st_str_dict, st_tuple_bool, st_tuple_int, st_tuple_str, st_tuple_tuple, st_tuple_list, st_tuple_dict, st_list_bool, st_list_int, st_list_str, st_list_tuple, st_list_list, st_list_dict, st_dict_bool, st_dict_int, st_dict_str, st_dict_tuple, st_dict_list, st_dict_dict, div_ok, mod_ok, eq_ii, beq_t q, List.length_map, hct]
    · rw [if_neg q] at hct
      simp (discharger := omega) only [sSeq, sAsg, sIf, sRet, sRetN, sExpr, sNext, sPar, sPar3, sBk, sCt, sFor, sPut, gNm, gTp, gsCons, gsNil, xVar, xC, xOp, xUn, xCons, xNil, xArgs, xCall, xTup, xLst, xBox, boxM, xIf, xAnd, xOr, xNot, xB, xAndT, xOrT, xNotT, xAppend, xPop, xPopAt, xExtend, xExtendT, xSlL, xPart, xNoPart, iSeq, iRange1, iRange2, cYes, seqOf, listOf, isLstC, runDef, sBegin, List.map_cons, List.map_nil, List.length_cons, List.length_nil, List.getElem?_cons_zero, List.getElem?_cons_succ, List.getElem?_nil, List.set_cons_zero, List.set_cons_succ, List.cons_append, List.nil_append, List.append_nil, Nat.sub_self, Nat.zero_add, Nat.reduceAdd, Nat.reduceSub, Nat.add_one_sub_one, List.replicate_zero, List.replicate_succ, Option.map_some, if_true, if_false, decide_true, decide_false, Bool.not_true, Bool.not_false, Bool.true_or, Bool.false_or, Bool.or_true, Bool.or_false, Bool.true_and, Bool.false_and, Bool.and_true, Bool.and_false, beq_self_eq_true, opAdd, opSub, opNeg, opLt, opLe, opGt, opGe, fLen, fAbs, fMax2, fMin2, fIsi, tyN, fList, fTuple, fDictP, opCat, opCatT, lstC, fKeys, fKeysS, fSorted, xPairs, xDisp, xUpdate, sForK, gLp, fKeysT, opRevT, iEnumT, keyOf, keyV, opIsBl, opNotBl, dictK, st_NoneType_bool, st_NoneType_int, st_NoneType_str, st_NoneType_tuple, st_NoneType_list, st_NoneType_dict, st_bool_bool, st_bool_int, st_bool_str, st_bool_tuple, st_bool_list, st_bool_dict, st_int_bool, st_int_int, st_int_str, st_int_tuple, st_int_list, st_int_dict, st_str_bool, st_str_int, st_str_str, st_str_tuple, st_str_list, st_str_dict, st_tuple_bool, st_tuple_int, st_tuple_str, st_tuple_tuple, st_tuple_list, st_tuple_dict, st_list_bool, st_list_int, st_list_str, st_list_tuple, st_list_list, st_list_dict, st_dict_bool, st_dict_int, st_dict_str, st_dict_tuple, st_dict_list, st_dict_dict, div_ok, mod_ok, eq_ii, beq_f q, hct]
  have st5 : sAsg (xBox (xC (.dK []))) (gNm 5) [some (.ref d), some (.int most), some (.int n), some (.lst (ns.map .int)), some (.int (ct : Nat)), none, none, none, none] (h.set d (.lst (ds2.map .int))) = some (.nx, [some (.ref d), some (.int most), some (.int n), some (.lst (ns.map .int)), some (.int (ct : Nat)), some (.ref h.length), none, none, none], h.set d (.lst (ds2.map .int)) ++ [.dK []]) := by
    simp only [ewd, List.length_set]
  have it : iSeq (xLst (xCons (xSlL (xVar 3) xNoPart (xPart (xVar 4))) (xCons (xSlL (xVar 3) (xPart (xVar 4)) xNoPart) xNil))) [some (.ref d), some (.int most), some (.int n), some (.lst (ns.map .int)), some (.int (ct : Nat)), some (.ref h.length), none, none, none] (h.set d (.lst (ds2.map .int)) ++ [.dK []]) = some (.vals [.lst ((ns.take ct).map .int), .lst ((ns.drop ct).map .int)], h.set d (.lst (ds2.map .int)) ++ [.dK []]) := by
    simp only [ewd, c1, c2]
  have lp : forGo (gNm 6) B1__law_flat [.lst ((ns.take ct).map .int), .lst ((ns.drop ct).map .int)] [some (.ref d), some (.int most), some (.int n), some (.lst (ns.map .int)), some (.int (ct : Nat)), some (.ref h.length), none, none, none] (h.set d (.lst (ds2.map .int)) ++ [.dK []]) = some (.nx, [some (.ref d), some (.int most), some (.int n), some (.lst (ns.map .int)), some (.int (ct : Nat)), some (.ref h.length), some (.lst ((ns.drop ct).map .int)), o7', o8'], h.set d (.lst (d2.map .int)) ++ [.dK (rowsV (V1 ++ V2))]) := by
    have s1' : B1__law_flat [some (.ref d), some (.int most), some (.int n), some (.lst (ns.map .int)), some (.int (ct : Nat)), some (.ref h.length), some (.lst ((ns.take ct).map .int)), none, none] (h.set d (.lst (ds2.map .int)) ++ [.dK []]) = _ := s1
    simp only [forGo, gNm, List.set_cons_succ, List.set_cons_zero, s1', s2]
  have raw : g__law_flat [.ref d, .int most] h = some (.dK (websV V), (h.set d (.lst (d2.tail.map .int))) ++ [.dK (rowsV (V1 ++ V2))]) :=
    run_rt (b := b__law_flat) ((seq_nx st1).trans ((seq_nx st2).trans ((seq_nx st3).trans ((seq_nx st4).trans ((seq_nx st5).trans ((seq_nx ((for_at it).trans lp)).trans (ret_at (by simp only [xCall, xCons, xNil, xVar, List.getElem?_cons_succ, List.getElem?_cons_zero, eb]))))))))
  exact toldV_at raw (by simp only [plainV]; exact plain_webs V) (by simp) (set_plain (plain_ints _))
theorem flat_at (h : MH) (d : Nat) (ds : List Int) (e : h[d]? = some (.lst (ds.map .int))) (hD : Drawn ds) (most : Int) (m0 : 0 ≤ most) (m1 : most ≤ 200) :
    ∃ V ds', Web V ∧ Names (keysOf' V) ∧ (V.length : Int) ≤ most ∧ Drawn ds' ∧ (toldV g__law_flat) [.ref d, .int most] h = some (.dK (websV V), h.set d (.lst (ds'.map .int))) := by
  obtain ⟨V, ds', a, b, c, e, _, r⟩ := flat_made h d ds e hD most m0 m1
  exact ⟨V, ds', a, b, c, e, r⟩
def B1__law_web : XS := (sSeq (sSet 7 (xLc (iSeq (xVar 3)) (gNm 8) (xAndT (xB (xOp opNe (xVar 8) (xVar 6))) (xB (xOp opLt (xOp opMod (xCall g__law_mixed (xCons (xOp opAdd (xVar 2) (xArgs fMin2 (xCons (xVar 6) (xCons (xVar 8) xNil)))) (xCons (xArgs fMax2 (xCons (xVar 6) (xCons (xVar 8) xNil))) xNil))) (xC (.int 8))) (xVar 4)))) (xVar 8) [8]))
    (sPut (xVar 5) (xVar 6) (xArgs fTuple (xCons (xSortK 0 [2, 6] (xCall g__law_mixed (xCons (xOp opAdd (xVar 1) (xVar 2)) (xCons (xOp opAdd (xVar 0) (xC (.int 7))) xNil))) (xVar 7)) xNil))))
def b__law_web : XS := (sSeq (sAsg (xCall g__law_next (xCons (xVar 0) xNil)) (gNm 2))
    (sSeq (sAsg (xCall g__law_names (xCons (xVar 0) (xCons (xOp opMod (xVar 2) (xOp opAdd (xVar 1) (xC (.int 1)))) xNil))) (gNm 3))
    (sSeq (sAsg (xOp opIx (xLst (xCons (xC (.int 1)) (xCons (xC (.int 2)) (xCons (xC (.int 3)) (xCons (xC (.int 4)) (xCons (xC (.int 6)) (xCons (xC (.int 8)) xNil))))))) (xOp opMod (xOp opDiv (xVar 2) (xC (.int 1000))) (xC (.int 6)))) (gNm 4))
    (sSeq (sAsg (xBox (xC (.dK []))) (gNm 5))
    (sSeq (sFor (iSeq (xVar 3)) (gNm 6) B1__law_web)
    (sRet (xVar 5)))))))
def g__law_web : Fn := runDef 9 b__law_web
theorem d__law_web {x0 x1 : MV} {h : MH} {R : MV → MH → Prop} (w : Wp (b__law_web [some x0, some x1, none, none, none, none, none, none, none] h) fun f _ h1 => kR f fun v => R v h1) : We (g__law_web [x0, x1] h) R := we_def w

def withB (n u v share : Int) : Bool := !(v == u) && decide (mixOf (n + (if v < u then v else u)) (if v > u then v else u) % 8 < share)
theorem with_sym (n u v share : Int) : withB n u v share = withB n v u share := by
  unfold withB
  have e1 : (if v < u then v else u) = (if u < v then u else v) := by split <;> split <;> omega
  have e2 : (if v > u then v else u) = (if u > v then u else v) := by split <;> split <;> omega
  rw [e1, e2, show (v == u) = (u == v) from Bool.beq_comm]
theorem web_of (n share : Int) (W : WL) (nd : (keysOf' W).Nodup) (hr : ∀ u r, rowOf W u = some r → r.Perm ((keysOf' W).filter fun v => withB n u v share)) : Web W where
  nd := nd
  row := fun u r e => by
    have p := hr u r e
    refine ⟨p.nodup_iff.mpr (nd.filter _), fun hu => ?_⟩
    have := (List.mem_filter.mp (p.mem_iff.mp hu)).2
    simp [withB] at this
  sym := fun u v r e hv => by
    have p := hr u r e
    obtain ⟨kv, wv⟩ := List.mem_filter.mp (p.mem_iff.mp hv)
    obtain ⟨r', e'⟩ := mem_rowOf kv
    refine ⟨r', e', (hr v r' e').mem_iff.mpr (List.mem_filter.mpr ⟨rowOf_mem e, ?_⟩)⟩
    rw [with_sym]; exact wv
theorem web_at (h : MH) (et : h[0]? = some (.tab 0)) (d : Nat) (d0 : d ≠ 0) (ds : List Int) (e : h[d]? = some (.lst (ds.map .int))) (hD : Drawn ds) (most : Int) (m0 : 0 ≤ most) (m1 : most ≤ 200) :
    ∃ V ds', Web V ∧ Names (keysOf' V) ∧ (V.length : Int) ≤ most ∧ Drawn ds' ∧ (toldF g__law_web) [.ref d, .int most] h = some (.dK (websV V), h.set d (.lst (ds'.map .int))) := by
  have hd : d < h.length := (List.getElem?_eq_some_iff.mp e).1
  obtain ⟨n0, n1⟩ := hD.head
  have en := next_at ds d h e
  generalize ds.headD 0 = n at n0 n1 en
  have D1 := hD.tail
  generalize ds.tail = ds1 at D1 en
  obtain ⟨mn, hmn, hml⟩ : ∃ mn : Nat, n % (most + 1) = (mn : Int) ∧ (mn : Int) ≤ most := by
    have a1 := Int.emod_nonneg n (show most + 1 ≠ 0 by omega)
    have a2 := Int.emod_lt_of_pos n (show 0 < most + 1 by omega)
    obtain ⟨k, hk⟩ := Int.eq_ofNat_of_zero_le a1
    exact ⟨k, hk, by omega⟩
  obtain ⟨ns, hns, lns, ens⟩ := names_at ds1 d (h.set d (.lst (ds1.map .int))) (get_set hd) D1 mn (by omega)
  rw [List.set_set] at ens
  have D2 := D1.tail
  generalize ds1.tail = ds2 at D2 ens
  have hh2 : (h.set d (.lst (ds2.map .int))).length = h.length := by simp
  have et2 : (h.set d (.lst (ds2.map .int)))[0]? = some (.tab 0) := by rw [List.getElem?_set_ne d0]; exact et
  have hpl : ∀ (i : Nat) (c' : MC), (h.set d (.lst (ds2.map .int)))[i]? = some c' → h[i]? = some c' ∨ plainC c' = true := set_plain (plain_ints _)
  have st1 : sAsg (xCall g__law_next (xCons (xVar 0) xNil)) (gNm 2) [some (.ref d), some (.int most), none, none, none, none, none, none, none] h = some (.nx, [some (.ref d), some (.int most), some (.int n), none, none, none, none, none, none], h.set d (.lst (ds1.map .int))) := set_at ((call_1 rfl).trans en)
  have st2 : sAsg (xCall g__law_names (xCons (xVar 0) (xCons (xOp opMod (xVar 2) (xOp opAdd (xVar 1) (xC (.int 1)))) xNil))) (gNm 3) [some (.ref d), some (.int most), some (.int n), none, none, none, none, none, none] (h.set d (.lst (ds1.map .int))) = some (.nx, [some (.ref d), some (.int most), some (.int n), some (.lst (ns.map .int)), none, none, none, none, none], h.set d (.lst (ds2.map .int))) := by
    refine set_at ((call_ab rfl (op_at rfl (op_at rfl rfl rfl) (mod_ok (by omega)))).trans ?_)
    rw [hmn]; exact ens
  suffices hs : ∃ V, Web V ∧ Names (keysOf' V) ∧ (V.length : Int) ≤ most ∧ (toldF g__law_web) [.ref d, .int most] h = some (.dK (websV V), h.set d (.lst (ds2.map .int))) from by
    obtain ⟨V, a1, a2, a3, a4⟩ := hs
    exact ⟨V, ds2, a1, a2, a3, D2, a4⟩
  generalize hH : h.set d (.lst (ds2.map .int)) = H at st2 hh2 et2 hpl ⊢
  have hM : ([1, 2, 3, 4, 6, 8] : List Int).map MV.int = [.int 1, .int 2, .int 3, .int 4, .int 6, .int 8] := rfl
  obtain ⟨share, _, esh⟩ := pick (f := MV.int) (xs := [1, 2, 3, 4, 6, 8]) (n := n / 1000) (by omega) (by simp)
  have st3 : sAsg (xOp opIx (xLst (xCons (xC (.int 1)) (xCons (xC (.int 2)) (xCons (xC (.int 3)) (xCons (xC (.int 4)) (xCons (xC (.int 6)) (xCons (xC (.int 8)) xNil))))))) (xOp opMod (xOp opDiv (xVar 2) (xC (.int 1000))) (xC (.int 6)))) (gNm 4) [some (.ref d), some (.int most), some (.int n), some (.lst (ns.map .int)), none, none, none, none, none] H = some (.nx, [some (.ref d), some (.int most), some (.int n), some (.lst (ns.map .int)), some (.int share), none, none, none, none], H) :=
    set_at (op_at (x := .lst [.int 1, .int 2, .int 3, .int 4, .int 6, .int 8]) rfl (op_at (op_at rfl rfl (div_ok (by omega) (by omega))) rfl (mod_ok (by omega))) ((ix_l _ _ _).trans esh))
  have st4 : sAsg (xBox (xC (.dK []))) (gNm 5) [some (.ref d), some (.int most), some (.int n), some (.lst (ns.map .int)), some (.int share), none, none, none, none] H = some (.nx, [some (.ref d), some (.int most), some (.int n), some (.lst (ns.map .int)), some (.int share), some (.ref H.length), none, none, none], H ++ [.dK (websV [])]) := rfl
  obtain ⟨s', h', eg, W, o6, o7, o8, rfl, rfl, kW, rW⟩ := forGo_run (g := gNm 6) (b := B1__law_web)
    (fun i s h1 => ∃ W o6 o7 o8, s = [some (.ref d), some (.int most), some (.int n), some (.lst (ns.map .int)), some (.int share), some (.ref H.length), o6, o7, o8] ∧ h1 = H ++ [.dK (websV W)] ∧ keysOf' W = ns.take i ∧ ∀ u r, rowOf W u = some r → r.Perm (ns.filter fun v => withB n u v share))
    (ns.map .int) 0 [some (.ref d), some (.int most), some (.int n), some (.lst (ns.map .int)), some (.int share), some (.ref H.length), none, none, none] (H ++ [.dK (websV [])]) ⟨[], none, none, none, rfl, rfl, rfl, fun u r e => by simp [rowOf] at e⟩ (by
    rintro i x s h1 ex ⟨W, o6, o7, o8, rfl, rfl, kW, rW⟩
    rw [Nat.zero_add] at kW ⊢
    rw [List.getElem?_map] at ex
    cases eu : ns[i]? with
    | none => rw [eu] at ex; cases ex
    | some u =>
      rw [eu] at ex; cases ex
      have hu := hns.2 u (List.mem_of_getElem? eu)
      have lc := lcGo_gen (g := gNm 8) (c := xAndT (xB (xOp opNe (xVar 8) (xVar 6))) (xB (xOp opLt (xOp opMod (xCall g__law_mixed (xCons (xOp opAdd (xVar 2) (xArgs fMin2 (xCons (xVar 6) (xCons (xVar 8) xNil)))) (xCons (xArgs fMax2 (xCons (xVar 6) (xCons (xVar 8) xNil))) xNil))) (xC (.int 8))) (xVar 4)))) (e := xVar 8)
        (s := [some (.ref d), some (.int most), some (.int n), some (.lst (ns.map .int)), some (.int share), some (.ref H.length), some (.int u), o7, none]) (h := H ++ [.dK (websV W)]) MV.int (fun v => withB n u v share) MV.int ns [] (by rw [List.length_nil]; unfold szLine; omega) (fun v hm => by
          have hv' := hns.2 v hm
          refine ⟨[some (.ref d), some (.int most), some (.int n), some (.lst (ns.map .int)), some (.int share), some (.ref H.length), some (.int u), o7, some (.int v)], rfl, ?_, fun _ => rfl⟩
          have hx : -4611686018427387904 < (if v > u then v else u) ∧ (if v > u then v else u) < 4611686018427387904 := by split <;> omega
          have c2 : xB (xOp opLt (xOp opMod (xCall g__law_mixed (xCons (xOp opAdd (xVar 2) (xArgs fMin2 (xCons (xVar 6) (xCons (xVar 8) xNil)))) (xCons (xArgs fMax2 (xCons (xVar 6) (xCons (xVar 8) xNil))) xNil))) (xC (.int 8))) (xVar 4)) [some (.ref d), some (.int most), some (.int n), some (.lst (ns.map .int)), some (.int share), some (.ref H.length), some (.int u), o7, some (.int v)] (H ++ [.dK (websV W)]) = some (decide (mixOf (n + (if v < u then v else u)) (if v > u then v else u) % 8 < share), H ++ [.dK (websV W)]) := by
            simp (discharger := first | exact hx.1 | exact hx.2 | omega) only [sSeq, sAsg, sIf, sRet, sRetN, sExpr, sNext, sPar, sPar3, sBk, sCt, sFor, sPut, gNm, gTp, gsCons, gsNil, xVar, xC, xOp, xUn, xCons, xNil, xArgs, xCall, xTup, xLst, xBox, boxM, xIf, xAnd, xOr, xNot, xB, xAndT, xOrT, xNotT, xAppend, xPop, xPopAt, xExtend, xExtendT, xSlL, xPart, xNoPart, iSeq, iRange1, iRange2, cYes, seqOf, listOf, isLstC, runDef, sBegin, List.map_cons, List.map_nil, List.length_cons, List.length_nil, List.getElem?_cons_zero, List.getElem?_cons_succ, List.getElem?_nil, List.set_cons_zero, List.set_cons_succ, List.cons_append, List.nil_append, List.append_nil, Nat.sub_self, Nat.zero_add, Nat.reduceAdd, Nat.reduceSub, Nat.add_one_sub_one, List.replicate_zero, List.replicate_succ, Option.map_some, if_true, if_false, decide_true, decide_false, Bool.not_true, Bool.not_false, Bool.true_or, Bool.false_or, Bool.or_true, Bool.or_false, Bool.true_and, Bool.false_and, Bool.and_true, Bool.and_false, beq_self_eq_true, opAdd, opSub, opNeg, opLt, opLe, opGt, opGe, fLen, fAbs, fMax2, fMin2, fIsi, tyN, fList, fTuple, fDictP, opCat, opCatT, lstC, fKeys, fKeysS, fSorted, xPairs, xDisp, xUpdate, sForK, gLp, fKeysT, opRevT, iEnumT, keyOf, keyV, opIsBl, opNotBl, dictK, st_NoneType_bool, st_NoneType_int, st_NoneType_str, st_NoneType_tuple, st_NoneType_list, st_NoneType_dict, st_bool_bool, st_bool_int, st_bool_str, st_bool_tuple, st_bool_list, st_bool_dict, st_int_bool, st_int_int, st_int_str, st_int_tuple, st_int_list, st_int_dict, st_str_bool, st_str_int, st_str_str, st_str_tuple, st_str_list, st_str_dict, st_tuple_bool, st_tuple_int, st_tuple_str, st_tuple_tuple, st_tuple_list, st_tuple_dict, st_list_bool, st_list_int, st_list_str, st_list_tuple, st_list_list, st_list_dict, st_dict_bool, st_dict_int, st_dict_str, st_dict_tuple, st_dict_list, st_dict_dict, mixed_at, mod_ok]
          unfold withB
          by_cases q : v = u
          · simp only [xAndT, xB, xOp, xVar, List.getElem?_cons_succ, List.getElem?_cons_zero, ne_ii, beq_t q, Bool.not_true, Bool.false_and]
          · simp only [xAndT]
            rw [show xB (xOp opNe (xVar 8) (xVar 6)) [some (.ref d), some (.int most), some (.int n), some (.lst (ns.map .int)), some (.int share), some (.ref H.length), some (.int u), o7, some (.int v)] (H ++ [.dK (websV W)]) = some (true, H ++ [.dK (websV W)]) by simp only [xB, xOp, xVar, List.getElem?_cons_succ, List.getElem?_cons_zero, ne_ii, beq_f q, Bool.not_false]]
            simp only [c2, beq_f q, Bool.not_false, Bool.true_and])
      rw [List.nil_append] at lc
      have it : iSeq (xVar 3) [some (.ref d), some (.int most), some (.int n), some (.lst (ns.map .int)), some (.int share), some (.ref H.length), some (.int u), o7, o8] (H ++ [.dK (websV W)]) = some (.vals (ns.map .int), H ++ [.dK (websV W)]) := seq_lst rfl
      have lc2 := lc_at (own := [8]) it lc
      have sa := set_at (i := 7) lc2
      generalize hF : ns.filter (fun v => withB n u v share) = F at sa
      have fl : F.length ≤ 200 := by rw [← hF]; have := List.length_filter_le (fun v => withB n u v share) ns; omega
      have fb : ∀ v ∈ F, 0 ≤ v ∧ v < 1000 := fun v hv => by rw [← hF] at hv; exact hns.2 v (List.mem_filter.mp hv).1
      obtain ⟨ys, yp, es⟩ := sortK_at (n := 0) (js := [2, 6]) (b := xCall g__law_mixed (xCons (xOp opAdd (xVar 1) (xVar 2)) (xCons (xOp opAdd (xVar 0) (xC (.int 7))) xNil))) (e := xVar 7) (s := [some (.ref d), some (.int most), some (.int n), some (.lst (ns.map .int)), some (.int share), some (.ref H.length), some (.int u), some (.lst (F.map .int)), o8]) (h := H ++ [.dK (websV W)]) (fun v => mixOf (n + u) (v + 7)) rfl (get_app et2) (by omega) (fun v hv => by
          have hv' := fb v hv
          exact (call_ab (x := .int (n + u)) (y := .int (v + 7)) rfl rfl).trans (mixed_at _ _ _ (by omega) (by omega)))
      have tp := args1_at (f := fTuple) es tup_lst
      have nk : u ∉ keysOf' W := by
        rw [kW]
        intro hm
        have nd : (ns.take (i + 1)).Nodup := hns.1.sublist (List.take_sublist _ _)
        rw [take_snoc eu, List.nodup_append] at nd
        exact nd.2.2 u hm u (by simp) rfl
      have lw : W.length < szLine := by rw [← keys_len, kW, List.length_take]; unfold szLine; omega
      have pw := put_webs (h := H ++ [.dK (websV W)]) (m := H.length) (u := u) (r := ys) get_last lw
      rw [put_app nk, set_last] at pw
      have sp : sPut (xVar 5) (xVar 6) (xArgs fTuple (xCons (xSortK 0 [2, 6] (xCall g__law_mixed (xCons (xOp opAdd (xVar 1) (xVar 2)) (xCons (xOp opAdd (xVar 0) (xC (.int 7))) xNil))) (xVar 7)) xNil)) _ _ = _ := put_at tp rfl rfl pw
      refine ⟨_, _, .nx, _, _, rfl, (seq_nx sa).trans sp, .inl rfl, W ++ [(u, ys)], _, _, _, rfl, rfl, ?_, ?_⟩
      · rw [keys_app, kW, take_snoc eu]; rfl
      · intro v r er
        rw [rowOf_app] at er
        cases e1 : rowOf W v with
        | some r1 => rw [e1] at er; cases er; exact rW v _ e1
        | none =>
          rw [e1] at er
          simp only [Option.none_or, rowOf] at er
          split at er
          · rename_i q
            cases er
            rw [← q, hF]; exact yp
          · cases er)
  rw [Nat.zero_add, List.length_map, List.take_length] at kW
  have raw : g__law_web [.ref d, .int most] h = some (.ref H.length, H ++ [.dK (websV W)]) := by
    have st5 := (seq_nx (b := sRet (xVar 5)) ((for_at (it := iSeq (xVar 3)) (s := [some (.ref d), some (.int most), some (.int n), some (.lst (ns.map .int)), some (.int share), some (.ref H.length), none, none, none]) (h := H ++ [.dK (websV [])]) (seq_lst rfl)).trans eg)).trans (ret_at rfl)
    exact run_rt (b := b__law_web) ((seq_nx st1).trans ((seq_nx st2).trans ((seq_nx st3).trans ((seq_nx st4).trans st5))))
  exact ⟨W, web_of n share W (by rw [kW]; exact hns.1) (fun u r er => by rw [kW]; exact rW u r er), by rw [kW]; exact hns, by rw [← keys_len, kW]; omega, toldF_dK raw get_last (by omega) (plain_webs _) hh2 hpl⟩
--@fresh _law_twin
def B1__law_twin : XS := (sPut (xVar 1) (xVar 2) (xOp opIx (xVar 0) (xVar 2)))
def b__law_twin : XS := (sSeq (sAsg (xBox (xC (.dK []))) (gNm 1))
    (sSeq (sForK 0 (gNm 2) B1__law_twin)
    (sRet (xVar 1))))
def g__law_twin : Fn := runDef 3 b__law_twin
theorem d__law_twin {x0 : MV} {h : MH} {R : MV → MH → Prop} (w : Wp (b__law_twin [some x0, none, none] h) fun f _ h1 => kR f fun v => R v h1) : We (g__law_twin [x0] h) R := we_def w

theorem twin_at (D : List (Int × MV)) (nd : (D.map (·.1)).Nodup) (hl : D.length ≤ 100000) (hp : ∀ p ∈ D, plainV p.2 = true) (h : MH) : (toldF g__law_twin) [.dK (dictI D)] h = some (.dK (dictI D), h) := by
  have st1 : sAsg (xBox (xC (.dK []))) (gNm 1) [some (.dK (dictI D)), none, none] h = some (.nx, [some (.dK (dictI D)), some (.ref h.length), none], h ++ [.dK (dictI [])]) := rfl
  obtain ⟨s', h', e, o, rfl, rfl⟩ := forGo_run (g := gNm 2) (b := B1__law_twin)
    (fun i s h1 => ∃ o, s = [some (.dK (dictI D)), some (.ref h.length), o] ∧ h1 = h ++ [.dK (dictI (D.take i))])
    ((D.map (·.1)).map .int) 0 [some (.dK (dictI D)), some (.ref h.length), none] (h ++ [.dK (dictI [])]) ⟨none, rfl, rfl⟩ (by
    rintro i x s h1 ex ⟨o, rfl, rfl⟩
    rw [Nat.zero_add]
    rw [List.getElem?_map, List.getElem?_map] at ex
    cases ep : D[i]? with
    | none => rw [ep] at ex; cases ex
    | some p =>
      rw [ep] at ex; cases ex
      have ts := take_snoc ep
      have nd2 : ((D.take (i + 1)).map (·.1)).Nodup := nd.sublist ((List.take_sublist (i + 1) D).map _)
      rw [ts, List.map_append, List.nodup_append] at nd2
      have q : p.1 ∉ (D.take i).map (·.1) := fun z => nd2.2.2 p.1 z p.1 (by simp) rfl
      have pw := put_dictI (h := h ++ [.dK (dictI (D.take i))]) (m := h.length) (v := p.2) get_last q (by rw [List.length_take]; unfold szLine; omega)
      rw [set_last, show (p.1, p.2) = p from rfl, ← ts] at pw
      have ei : xOp opIx (xVar 0) (xVar 2) [some (.dK (dictI D)), some (.ref h.length), some (.int p.1)] (h ++ [.dK (dictI (D.take i))]) = some (p.2, h ++ [.dK (dictI (D.take i))]) := op_at rfl rfl (ix_dictI nd (List.mem_of_getElem? ep))
      have sp : B1__law_twin [some (.dK (dictI D)), some (.ref h.length), some (.int p.1)] (h ++ [.dK (dictI (D.take i))]) = some (.nx, [some (.dK (dictI D)), some (.ref h.length), some (.int p.1)], h ++ [.dK (dictI (D.take (i + 1)))]) := put_at ei rfl rfl pw
      exact ⟨_, _, .nx, _, _, rfl, sp, .inl rfl, _, rfl, rfl⟩)
  rw [Nat.zero_add, List.length_map, List.length_map, List.take_length] at e
  have fk := forK_at (n := 0) (g := gNm 2) (b := B1__law_twin) (s := [some (.dK (dictI D)), some (.ref h.length), none]) (h := h ++ [.dK (dictI [])]) (kvs := dictI D) rfl
  rw [keysV_dictI] at fk
  have raw : g__law_twin [.dK (dictI D)] h = some (.ref h.length, h ++ [.dK (dictI D)]) := run_rt (b := b__law_twin) ((seq_nx st1).trans ((seq_nx (fk.trans e)).trans (ret_at rfl)))
  exact toldF_dK raw get_last (by omega) (plain_dictI hp) rfl same_plain
theorem twin_web (W : WL) (nd : (keysOf' W).Nodup) (hl : W.length ≤ 100000) (h : MH) : (toldF g__law_twin) [.dK (websV W)] h = some (.dK (websV W), h) := by
  rw [websI]
  refine twin_at _ (by simpa [keysOf', Function.comp_def] using nd) (by rw [List.length_map]; exact hl) ?_ h
  intro p hp
  obtain ⟨q, _, rfl⟩ := List.mem_map.mp hp
  simp only [plainV]; exact plain_ints _

def b_is_number : XS := (sRet (xAnd (xArgs (fIsi "int") (xCons (xVar 0) xNil)) (xNot (xArgs (fIsi "bool") (xCons (xVar 0) xNil)))))
def g_is_number : Fn := runDef 1 b_is_number
theorem d_is_number {x0 : MV} {h : MH} {R : MV → MH → Prop} (w : Wp (b_is_number [some x0] h) fun f _ h1 => kR f fun v => R v h1) : We (g_is_number [x0] h) R := we_def w

def B1_is_ring : XS := (sSeq (sIf (xOrT (xNotT (xB (xCall g_is_number (xCons (xVar 3) xNil)))) (xOrT (xB (xOp opNotIn (xVar 3) (xVar 0))) (xB (xOp opIn (xVar 3) (xVar 2))))) (sRet (xC (.bl false))) sNext)
    (sPut (xVar 2) (xVar 3) (xC (.bl true))))
def b_is_ring : XS := (sSeq (sIf (xOrT (xNotT (xB (xArgs (fIsi "tuple") (xCons (xVar 1) xNil)))) (xB (xOp opLt (xArgs fLen (xCons (xVar 1) xNil)) (xC (.int 3))))) (sRet (xC (.bl false))) sNext)
    (sSeq (sAsg (xBox (xC (.dK []))) (gNm 2))
    (sSeq (sFor (iSeq (xVar 1)) (gNm 3) B1_is_ring)
    (sRet (xArgs fAll (xCons (xLc (iRange1 (xArgs fLen (xCons (xVar 1) xNil))) (gNm 4) cYes (xOp opIn (xOp opIx (xVar 1) (xOp opSub (xVar 4) (xC (.int 1)))) (xOp opIx (xVar 0) (xOp opIx (xVar 1) (xVar 4)))) [4]) xNil))))))
def g_is_ring : Fn := runDef 5 b_is_ring
theorem d_is_ring {x0 x1 : MV} {h : MH} {R : MV → MH → Prop} (w : Wp (b_is_ring [some x0, some x1, none, none, none] h) fun f _ h1 => kR f fun v => R v h1) : We (g_is_ring [x0, x1] h) R := we_def w

theorem is_number_int (h : MH) (i : Int) : g_is_number [.int i] h = some (.bl true, h) := rfl
theorem is_ring_ok {W : WL} (lW : W.length ≤ 1000) (hr : ∀ u r, rowOf W u = some r → r.length ≤ 1000) (L : List Int) (l3 : 3 ≤ L.length) (ll : L.length ≤ 3000) (hk : ∀ p ∈ L, p ∈ keysOf' W) (nd : L.Nodup) (adj : ∀ i x y, L[i]? = some x → L[i + 1]? = some y → x ∈ rowsAt W y) (cyc : ∀ x y, L[L.length - 1]? = some x → L[0]? = some y → x ∈ rowsAt W y) (H : MH) :
    We (g_is_ring [.dK (websV W), .row (L.map .int)] H) fun v h => v = .bl true ∧ ∃ t, h = H ++ t := by
  refine d_is_ring ?_
  unfold b_is_ring B1_is_ring
  show wp
  refine br_f (decide_eq_false (by rw [List.length_map]; omega)) ?_
  show wp
  refine wfor (fun i s1 h1 => ∃ o3, s1 = [some (.dK (websV W)), some (.row (L.map .int)), some (.ref H.length), o3, none] ∧ h1 = H ++ [.dK (seenV (L.take i))]) ⟨none, rfl, rfl⟩ ?_ ?_
  · rintro i x s1 h1 ex ⟨o3, rfl, rfl⟩
    rw [List.getElem?_map] at ex
    cases ep : L[i]? with
    | none => rw [ep] at ex; cases ex
    | some p =>
      rw [ep] at ex; cases ex
      have hp := hk p (List.mem_of_getElem? ep)
      have nq : p ∉ L.take i := fun hm => by
        have n2 := nd.sublist (List.take_sublist (i + 1) L)
        rw [take_snoc ep, List.nodup_append] at n2
        exact n2.2.2 p hm p (by simp) rfl
      show wp
      show wr (is_number_int _ p)
      refine br_f (by simpa using hp) ?_
      show wp
      show wr (in_seen get_last p)
      refine br_f (by simpa using nq) ?_
      show wp
      have pw := put_seen (h := H ++ [.dK (seenV (L.take i))]) (m := H.length) (p := p) get_last nq (by rw [List.length_take]; unfold szLine; omega)
      rw [set_last, ← take_snoc ep] at pw
      show wr pw
      exact ⟨.inl rfl, _, rfl, rfl⟩
  rintro s1 h1 ⟨o3, rfl, rfl⟩
  rw [List.length_map, List.take_length]
  show wp
  rw [List.length_map]
  refine kN_int ⟨by omega, by omega⟩ ?_
  show wp
  refine wlcA (fun i : Nat => MV.int (0 + (i : Int))) (fun _ => MV.bl true) (List.range L.length) (by unfold rngM; rw [show ((L.length : Nat) : Int).toNat = L.length by omega]) (by rw [List.length_range]; omega) (fun i hi => ?_) ?_
  · rw [List.mem_range] at hi
    have ei := List.getElem?_eq_getElem hi
    generalize L[i] = y at ei
    have hy := hk y (List.mem_of_getElem? ei)
    have e2 : atM (L.map MV.int) (0 + (i : Int)) = some (.int y) := by
      rw [Int.zero_add]
      exact at_nat (by rw [List.getElem?_map, ei]; rfl)
    have e1 : ∃ x, atM (L.map MV.int) (0 + (i : Int) - 1) = some (.int x) ∧ x ∈ rowsAt W y := by
      by_cases z : i = 0
      · subst z
        have hl : L.length - 1 < L.length := by omega
        have el := List.getElem?_eq_getElem hl
        generalize L[L.length - 1] = x at el
        refine ⟨x, ?_, cyc x y el ei⟩
        rw [show (0 : Int) + ((0 : Nat) : Int) - 1 = -1 from rfl]
        unfold atM ixM
        rw [if_neg (by decide), if_pos (by rw [List.length_map]; omega), List.length_map, show ((-1 : Int) + (L.length : Nat)).toNat = L.length - 1 by omega]
        show (L.map MV.int)[L.length - 1]? = _
        rw [List.getElem?_map, el]; rfl
      · obtain ⟨j, rfl⟩ : ∃ j, i = j + 1 := ⟨i - 1, by omega⟩
        have hj : j < L.length := by omega
        have ej := List.getElem?_eq_getElem hj
        generalize L[j] = x at ej
        refine ⟨x, ?_, adj j x y ej ei⟩
        rw [show (0 : Int) + ((j + 1 : Nat) : Int) - 1 = (j : Int) by omega]
        exact at_nat (by rw [List.getElem?_map, ej]; rfl)
    obtain ⟨x, e1, hx⟩ := e1
    show wp
    show wr e1
    show wr e2
    obtain ⟨ry, ery⟩ := mem_rowOf hy
    rw [rowsAt_of ery] at hx
    show wr (ix_websV ery)
    exact ⟨by rw [decide_eq_true hx], rfl, rfl⟩
  show wp
  show wr (all_true _ _)
  exact ⟨rfl, _, rfl⟩

def b__law_is_point : XS := (sRet (xAnd (xArgs (fIsi "int") (xCons (xVar 0) xNil)) (xAnd (xNot (xArgs (fIsi "bool") (xCons (xVar 0) xNil))) (xChain opLe opLe (xC (.int 0)) (xVar 0) (xC (.int 999))))))
def g__law_is_point : Fn := runDef 1 b__law_is_point
theorem d__law_is_point {x0 : MV} {h : MH} {R : MV → MH → Prop} (w : Wp (b__law_is_point [some x0] h) fun f _ h1 => kR f fun v => R v h1) : We (g__law_is_point [x0] h) R := we_def w


def b__law_says : XS := (sSeq (sIf (xB (xVar 1)) (sRet (xOp opIsBl (xVar 0) (xC (.bl true)))) sNext)
    (sRet (xOp opIsBl (xVar 0) (xC (.bl false)))))
def g__law_says : Fn := runDef 2 b__law_says
theorem d__law_says {x0 x1 : MV} {h : MH} {R : MV → MH → Prop} (w : Wp (b__law_says [some x0, some x1] h) fun f _ h1 => kR f fun v => R v h1) : We (g__law_says [x0, x1] h) R := we_def w

def W1__law_walk : XT := (xAndT (xB (xOp opNe (xVar 5) (xLst xNil))) (xB (xOp opLt (xArgs fLen (xCons (xVar 3) xNil)) (xVar 4))))
def B1__law_walk : XS := (sSeq (sExpr (xAppend (xVar 3) (xOp opIx (xVar 5) (xOp opMod (xCall g__law_next (xCons (xVar 1) xNil)) (xArgs fLen (xCons (xVar 5) xNil))))))
    (sSet 5 (xLc (iSeq (xOp opIx (xVar 0) (xOp opIx (xVar 3) (xUn opNeg (xC (.int 1)))))) (gNm 6) (xB (xOp opNotIn (xVar 6) (xVar 3))) (xVar 6) [6])))
def b__law_walk : XS := (sSeq (sAsg (xUn fKeysS (xVar 0)) (gNm 2))
    (sSeq (sAsg (xBox (xLst (xCons (xOp opIx (xVar 2) (xOp opMod (xCall g__law_next (xCons (xVar 1) xNil)) (xArgs fLen (xCons (xVar 2) xNil)))) xNil))) (gNm 3))
    (sSeq (sAsg (xOp opAdd (xC (.int 3)) (xOp opMod (xCall g__law_next (xCons (xVar 1) xNil)) (xC (.int 8)))) (gNm 4))
    (sSeq (sAsg (xArgs fList (xCons (xOp opIx (xVar 0) (xOp opIx (xVar 3) (xC (.int 0)))) xNil)) (gNm 5))
    (sSeq (sWhile W1__law_walk B1__law_walk)
    (sSeq (sSet 7 (xLc (iRange2 (xC (.int 3)) (xOp opAdd (xArgs fLen (xCons (xVar 3) xNil)) (xC (.int 1)))) (gNm 8) (xB (xOp opIn (xOp opIx (xVar 3) (xC (.int 0))) (xOp opIx (xVar 0) (xOp opIx (xVar 3) (xOp opSub (xVar 8) (xC (.int 1))))))) (xVar 8) [8]))
    (sSeq (sIf (xAndT (xB (xOp opNe (xVar 7) (xLst xNil))) (xB (xOp opGt (xOp opMod (xCall g__law_next (xCons (xVar 1) xNil)) (xC (.int 4))) (xC (.int 0))))) (sAsg (xBox (xSlL (xVar 3) xNoPart (xPart (xOp opIx (xVar 7) (xUn opNeg (xC (.int 1))))))) (gNm 3)) sNext)
    (sRet (xVar 3)))))))))
def g__law_walk : Fn := runDef 9 b__law_walk
theorem d__law_walk {x0 x1 : MV} {h : MH} {R : MV → MH → Prop} (w : Wp (b__law_walk [some x0, some x1, none, none, none, none, none, none, none] h) fun f _ h1 => kR f fun v => R v h1) : We (g__law_walk [x0, x1] h) R := we_def w


def b__law_bent : XS := (sSeq (sAsg (xCall g__law_next (xCons (xVar 2) xNil)) (gNm 3))
    (sSeq (sAsg (xOp opMod (xVar 3) (xC (.int 7))) (gNm 4))
    (sSeq (sAsg (xOp opMod (xOp opDiv (xVar 3) (xC (.int 7))) (xArgs fLen (xCons (xVar 0) xNil))) (gNm 5))
    (sSeq (sAsg (xOp opIx (xUn fKeysS (xVar 1)) (xOp opMod (xOp opDiv (xVar 3) (xC (.int 1000))) (xArgs fLen (xCons (xVar 1) xNil)))) (gNm 6))
    (sSeq (sAsg (xLst (xCons (xC (.bl true)) (xCons (xC .non) (xCons (xC (.str "")) (xCons (xArgs fStrI (xCons (xVar 6) xNil)) (xCons (xTup (xCons (xVar 6) xNil)) (xCons (xC (.int 1000)) (xCons (xUn opNeg (xC (.int 1))) (xCons (xLst (xCons (xOp opIx (xVar 0) (xVar 5)) xNil)) (xCons (xDisp (((xOp opIx (xVar 0) (xVar 5)), (xOp opIx (xVar 0) (xVar 5))) :: [])) (xCons (xLst xNil) (xCons (xC (.dK [])) xNil)))))))))))) (gNm 7))
    (sSeq (sIf (xB (xOp opEq (xVar 4) (xC (.int 0)))) (sRet (xArgs fTuple (xCons (xCat (xCat (xSlL (xVar 0) xNoPart (xPart (xVar 5))) (xLst (xCons (xVar 6) xNil))) (xSlL (xVar 0) (xPart (xVar 5)) xNoPart)) xNil))) sNext)
    (sSeq (sIf (xB (xOp opEq (xVar 4) (xC (.int 1)))) (sRet (xArgs fTuple (xCons (xCat (xSlL (xVar 0) xNoPart (xPart (xVar 5))) (xSlL (xVar 0) (xPart (xOp opAdd (xVar 5) (xC (.int 1)))) xNoPart)) xNil))) sNext)
    (sSeq (sIf (xB (xOp opEq (xVar 4) (xC (.int 2)))) (sRet (xArgs fTuple (xCons (xCat (xCat (xSlL (xVar 0) xNoPart (xPart (xVar 5))) (xLst (xCons (xOp opIx (xVar 0) (xVar 5)) xNil))) (xSlL (xVar 0) (xPart (xVar 5)) xNoPart)) xNil))) sNext)
    (sSeq (sIf (xB (xOp opEq (xVar 4) (xC (.int 3)))) (sRet (xArgs fTuple (xCons (xCat (xCat (xSlL (xVar 0) xNoPart (xPart (xVar 5))) (xLst (xCons (xOp opIx (xVar 7) (xOp opMod (xOp opDiv (xVar 3) (xC (.int 1000))) (xC (.int 11)))) xNil))) (xSlL (xVar 0) (xPart (xOp opAdd (xVar 5) (xC (.int 1)))) xNoPart)) xNil))) sNext)
    (sSeq (sIf (xB (xOp opEq (xVar 4) (xC (.int 4)))) (sRet (xArgs fList (xCons (xVar 0) xNil))) sNext)
    (sSeq (sIf (xB (xOp opEq (xVar 4) (xC (.int 5)))) (sRet (xArgs fTuple (xCons (xCat (xVar 0) (xVar 0)) xNil))) sNext)
    (sRet (xArgs fTuple (xCons (xArgs fSorted (xCons (xVar 0) xNil)) xNil))))))))))))))
def g__law_bent : Fn := runDef 8 b__law_bent
theorem d__law_bent {x0 x1 x2 : MV} {h : MH} {R : MV → MH → Prop} (w : Wp (b__law_bent [some x0, some x1, some x2, none, none, none, none, none] h) fun f _ h1 => kR f fun v => R v h1) : We (g__law_bent [x0, x1, x2] h) R := we_def w

def B1__law_due : XS := (sIf (xOrT (xNotT (xB (xCall g__law_is_point (xCons (xVar 2) xNil)))) (xOrT (xB (xOp opNotIn (xVar 2) (xVar 0))) (xB (xOp opGt (xOp opCountV (xArgs fList (xCons (xVar 1) xNil)) (xVar 2)) (xC (.int 1)))))) (sRet (xC (.bl false))) sNext)
def B2__law_due : XS := (sIf (xB (xOp opNotIn (xOp opIx (xVar 1) (xVar 3)) (xOp opIx (xVar 0) (xOp opIx (xVar 1) (xOp opMod (xOp opAdd (xVar 3) (xC (.int 1))) (xArgs fLen (xCons (xVar 1) xNil))))))) (sRet (xC (.bl false))) sNext)
def b__law_due : XS := (sSeq (sIf (xOrT (xNotT (xB (xArgs (fIsi "tuple") (xCons (xVar 1) xNil)))) (xB (xOp opLt (xArgs fLen (xCons (xVar 1) xNil)) (xC (.int 3))))) (sRet (xC (.bl false))) sNext)
    (sSeq (sFor (iSeq (xVar 1)) (gNm 2) B1__law_due)
    (sSeq (sFor (iRange1 (xArgs fLen (xCons (xVar 1) xNil))) (gNm 3) B2__law_due)
    (sRet (xC (.bl true))))))
def g__law_due : Fn := runDef 4 b__law_due
theorem d__law_due {x0 x1 : MV} {h : MH} {R : MV → MH → Prop} (w : Wp (b__law_due [some x0, some x1, none, none] h) fun f _ h1 => kR f fun v => R v h1) : We (g__law_due [x0, x1] h) R := we_def w

def B1__law_small : XS := (sIf (xB (xOp opNotBl (xCall g_is_ring (xCons (xVar 0) (xCons (xVar 1) xNil))) (xC (.bl false)))) (sRet (xC (.bl false))) sNext)
def B2__law_small : XS := (sIf (xB (xOp opNotBl (xCall g_is_ring (xCons (xVar 2) (xCons (xVar 3) xNil))) (xC (.bl true)))) (sRet (xC (.bl false))) sNext)
def B3__law_small : XS := (sIf (xB (xOp opNotBl (xCall g_is_ring (xCons (xVar 2) (xCons (xVar 3) xNil))) (xC (.bl false)))) (sRet (xC (.bl false))) sNext)
def b__law_small : XS := (sSeq (sFor (iSeq (xLst (xCons (xC .non) (xCons (xC (.bl true)) (xCons (xC (.int 0)) (xCons (xC (.int 7)) (xCons (xC (.str "")) (xCons (xC (.str "abc")) (xCons (xTup xNil) (xCons (xLst xNil) (xCons (xC (.dK [])) (xCons (xTupR (xCons (xTup xNil) (xCons (xTup xNil) (xCons (xTup xNil) xNil)))) (xCons (xTupR (xCons (xC .non) (xCons (xC .non) (xCons (xC .non) xNil)))) (xCons (xTupR (xCons (xC (.str "a")) (xCons (xC (.str "b")) (xCons (xC (.str "c")) xNil)))) (xCons (xDisp (((xC (.int 0)), (xC (.int 1))) :: [])) xNil))))))))))))))) (gNm 1) B1__law_small)
    (sSeq (sAsg (xDisp (((xC (.int 0)), (xTupR (xCons (xC (.int 1)) (xCons (xC (.int 2)) xNil)))) :: (((xC (.int 1)), (xTupR (xCons (xC (.int 2)) (xCons (xC (.int 0)) xNil)))) :: (((xC (.int 2)), (xTupR (xCons (xC (.int 0)) (xCons (xC (.int 1)) xNil)))) :: [])))) (gNm 2))
    (sSeq (sFor (iSeq (xLst (xCons (xTupR (xCons (xC (.int 0)) (xCons (xC (.int 1)) (xCons (xC (.int 2)) xNil)))) (xCons (xTupR (xCons (xC (.int 2)) (xCons (xC (.int 1)) (xCons (xC (.int 0)) xNil)))) (xCons (xTupR (xCons (xC (.int 1)) (xCons (xC (.int 2)) (xCons (xC (.int 0)) xNil)))) xNil))))) (gNm 3) B2__law_small)
    (sSeq (sAsg (xLst (xCons (xTupR (xCons (xC (.bl false)) (xCons (xC (.int 1)) (xCons (xC (.int 2)) xNil)))) (xCons (xTupR (xCons (xC (.int 0)) (xCons (xC (.bl true)) (xCons (xC (.int 2)) xNil)))) (xCons (xTupR (xCons (xC (.int 0)) (xCons (xC (.int 1)) xNil))) (xCons (xTupR (xCons (xC (.int 0)) (xCons (xC (.int 1)) (xCons (xC (.int 2)) (xCons (xC (.int 0)) xNil))))) (xCons (xTupR (xCons (xC (.int 0)) (xCons (xC (.int 1)) (xCons (xC (.int 1)) xNil)))) (xCons (xLst (xCons (xC (.int 0)) (xCons (xC (.int 1)) (xCons (xC (.int 2)) xNil)))) (xCons (xTupR (xCons (xC (.int 0)) (xCons (xC (.int 1)) (xCons (xC (.int 3)) xNil)))) (xCons (xTupR (xCons (xLst (xCons (xC (.int 0)) xNil)) (xCons (xC (.int 1)) (xCons (xC (.int 2)) xNil)))) (xCons (xTupR (xCons (xC (.int 0)) (xCons (xC (.int 1)) (xCons (xC (.dK [])) xNil)))) xNil)))))))))) (gNm 4))
    (sSeq (sFor (iSeq (xVar 4)) (gNm 3) B3__law_small)
    (sRet (xC (.bl true))))))))
def g__law_small : Fn := runDef 5 b__law_small
theorem d__law_small {x0 : MV} {h : MH} {R : MV → MH → Prop} (w : Wp (b__law_small [some x0, none, none, none, none] h) fun f _ h1 => kR f fun v => R v h1) : We (g__law_small [x0] h) R := we_def w

def B3_law : XS := (sIf (xNotT (xB (xCall g__law_says (xCons (xCall g_is_ring (xCons (xVar 3) (xCons (xVar 8) xNil))) (xCons (xCall g__law_due (xCons (xVar 3) (xCons (xVar 8) xNil))) xNil))))) (sRet (xC (.bl false))) sNext)
def B2_law : XS := (sSeq (sAsg (xLst xNil) (gNm 6))
    (sSeq (sIf (xB (xOp opNe (xVar 3) (xC (.dK [])))) (sSeq (sAsg (xCall (toldF Ew.g__law_walk) (xCons (xVar 3) (xCons (xVar 1) xNil))) (gNm 7))
    (sAsg (xLst (xCons (xArgs fTuple (xCons (xVar 7) xNil)) (xCons (xCall (toldV Ew.g__law_bent) (xCons (xVar 7) (xCons (xVar 3) (xCons (xVar 1) xNil)))) xNil))) (gNm 6))) sNext)
    (sFor (iSeq (xVar 6)) (gNm 8) B3_law)))
def B1_law : XS := (sSeq (sAsg (xCall (toldF Ew.g__law_web) (xCons (xVar 1) (xCons (xC (.int 12)) xNil))) (gNm 3))
    (sSeq (sIf (xB (xOp opGt (xOp opMod (xCall g__law_next (xCons (xVar 1) xNil)) (xC (.int 3))) (xC (.int 0)))) (sAsg (xCall (toldV Ew.g__law_flat) (xCons (xVar 1) (xCons (xC (.int 24)) xNil))) (gNm 3)) sNext)
    (sSeq (sAsg (xCall (toldF Ew.g__law_twin) (xCons (xVar 3) xNil)) (gNm 4))
    (sSeq (sIf (xNotT (xB (xCall g__law_small (xCons (xVar 3) xNil)))) (sRet (xC (.bl false))) sNext)
    (sSeq (sFor (iRange1 (xC (.int 6))) (gNm 5) B2_law)
    (sIf (xB (xOp opNe (xVar 3) (xVar 4))) (sRet (xC (.bl false))) sNext))))))
def b_law : XS := (sSeq (sAsg (xCall g__law_draws (xCons (xVar 0) xNil)) (gNm 1))
    (sSeq (sFor (iRange1 (xC (.int 3))) (gNm 2) B1_law)
    (sRet (xC (.bl true)))))
def g_law : Fn := runDef 9 b_law
theorem d_law {x0 : MV} {h : MH} {R : MV → MH → Prop} (w : Wp (b_law [some x0, none, none, none, none, none, none, none, none] h) fun f _ h1 => kR f fun v => R v h1) : We (g_law [x0] h) R := we_def w

/-! rows of any kind -/
def pointB (ks : Int → Bool) : MV → Bool
  | .int i => ks i
  | _ => false
def isIntM : MV → Bool
  | .int _ => true
  | _ => false
def prevI (L : List Int) (i : Nat) : Int := L.getD ((i + L.length - 1) % L.length) 0
def ringB (W : WL) (L : List Int) : Bool := decide (3 ≤ L.length) && (decide L.Nodup && (List.range L.length).all fun i => decide (prevI L i ∈ rowsAt W (L.getD i 0)))
theorem num_at {v : MV} (a : atomC v = true) (h : MH) : g_is_number [v] h = some (.bl (isIntM v), h) := by
  cases v <;> simp only [atomC, reduceCtorEq] at a <;> rfl
theorem all_of {α : Type} (h : MH) (f : α → Bool) (L : List α) : fAll h [.lst (L.map fun x => .bl (f x))] = some (.bl (L.all f)) := by
  have bo : ∀ L : List α, boolsOf (L.map fun x => .bl (f x)) = some (L.map f) := fun L => by
    induction L with
    | nil => rfl
    | cons x L ih => simp only [List.map_cons, boolsOf, ih, Option.map_some]
  simp only [fAll, listOf, bo L, Option.map_some, List.all_map]
  rfl
/-- points that are none of the web's, or other things -/
structure Odd (W : WL) (L : List Int) (u : MV) (rest : List MV) : Prop where
  a : atomC u = true
  n : pointB (fun p => decide (p ∈ keysOf' W)) u = false
  r : ∀ x ∈ rest, atomC x = true
  l : L.length + rest.length ≤ 3000
theorem ring_part {W : WL} {L : List Int} {u : MV} {rest : List MV} (o : Odd W L u rest) (H : MH) :
    We (g_is_ring [.dK (websV W), .row (L.map .int ++ u :: rest)] H) fun v h => v = .bl false ∧ ∃ t, h = H ++ t := by
  have hl := o.l
  refine d_is_ring ?_
  unfold b_is_ring B1_is_ring
  show wp
  refine br_dec (fun _ => ?_) (fun _ => ?_)
  · show wp
    exact ⟨rfl, [], by simp⟩
  show wp
  refine wforR (fun i s1 h1 => ∃ o3, i ≤ L.length ∧ s1 = [some (.dK (websV W)), some (.row (L.map .int ++ u :: rest)), some (.ref H.length), o3, none] ∧ h1 = H ++ [.dK (seenV (L.take i))]) ⟨none, by omega, rfl, rfl⟩ ?_ ?_
  · rintro i x s1 h1 ex ⟨o3, il, rfl, rfl⟩
    by_cases q : i < L.length
    · rw [List.getElem?_append_left (by rw [List.length_map]; exact q), List.getElem?_map] at ex
      have ep := List.getElem?_eq_getElem q
      generalize L[i] = p at ep
      rw [ep] at ex; cases ex
      show wp
      show wr (is_number_int _ p)
      refine br_by (fun k => ?_) (fun k => ?_)
      · show wp
        refine .inr (.inr ⟨_, rfl, ?_⟩)
        show wp
        exact ⟨rfl, _, rfl⟩
      show wp
      show wr (in_seen get_last p)
      refine br_by (fun k => ?_) (fun k => ?_)
      · show wp
        refine .inr (.inr ⟨_, rfl, ?_⟩)
        show wp
        exact ⟨rfl, _, rfl⟩
      show wp
      have nq : p ∉ L.take i := by simpa using k
      have pw := put_seen (h := H ++ [.dK (seenV (L.take i))]) (m := H.length) (p := p) get_last nq (by rw [List.length_take]; unfold szLine; omega)
      rw [set_last, ← take_snoc ep] at pw
      show wr pw
      exact .inl ⟨.inl rfl, _, by omega, rfl, rfl⟩
    · have ie : i = L.length := by omega
      subst ie
      rw [List.getElem?_append_right (by rw [List.length_map]; omega), List.length_map, Nat.sub_self] at ex
      cases ex
      show wp
      show wr (num_at o.a _)
      have on := o.n
      have oa := o.a
      cases u <;> simp only [atomC, reduceCtorEq] at oa
      case int i =>
        simp only [pointB, decide_eq_false_iff_not] at on
        refine br_f rfl ?_
        show wp
        refine br_t (by simpa using on) ?_
        show wp
        refine .inr (.inr ⟨_, rfl, ?_⟩)
        show wp
        exact ⟨rfl, _, rfl⟩
      all_goals
        refine br_t rfl ?_
        show wp
        refine .inr (.inr ⟨_, rfl, ?_⟩)
        show wp
        exact ⟨rfl, _, rfl⟩
  · rintro s h ⟨o3, il, _, _⟩
    simp only [List.length_append, List.length_map, List.length_cons] at il
    omega
theorem ring_good {W : WL} {L : List Int} (lL : L.length ≤ 3000) (hk : ∀ p ∈ L, p ∈ keysOf' W) (H : MH) :
    We (g_is_ring [.dK (websV W), .row (L.map .int)] H) fun v h => v = .bl (ringB W L) ∧ ∃ t, h = H ++ t := by
  refine d_is_ring ?_
  unfold b_is_ring B1_is_ring ringB
  show wp
  refine br_dec (fun l => ?_) (fun l => ?_)
  · rw [List.length_map] at l
    rw [decide_eq_false (by omega), Bool.false_and]
    show wp
    exact ⟨rfl, [], by simp⟩
  rw [List.length_map] at l
  rw [decide_eq_true (show 3 ≤ L.length by omega), Bool.true_and]
  show wp
  refine wforR (fun i s1 h1 => ∃ o3, i ≤ L.length ∧ (L.take i).Nodup ∧ s1 = [some (.dK (websV W)), some (.row (L.map .int)), some (.ref H.length), o3, none] ∧ h1 = H ++ [.dK (seenV (L.take i))]) ⟨none, by omega, by simp, rfl, rfl⟩ ?_ ?_
  · rintro i x s1 h1 ex ⟨o3, il, nd, rfl, rfl⟩
    rw [List.getElem?_map] at ex
    cases ep : L[i]? with
    | none => rw [ep] at ex; cases ex
    | some p =>
      rw [ep] at ex; cases ex
      have hp := hk p (List.mem_of_getElem? ep)
      have li := (List.getElem?_eq_some_iff.mp ep).1
      show wp
      show wr (is_number_int _ p)
      refine br_f (by simpa using hp) ?_
      show wp
      show wr (in_seen get_last p)
      refine br_by (fun k => ?_) (fun k => ?_)
      · have k : p ∈ L.take i := by simpa using k
        have nn : ¬ L.Nodup := fun n => by
          have n2 := n.sublist (List.take_sublist (i + 1) L)
          rw [take_snoc ep, List.nodup_append] at n2
          exact n2.2.2 p k p (by simp) rfl
        rw [decide_eq_false nn, Bool.false_and]
        show wp
        refine .inr (.inr ⟨_, rfl, ?_⟩)
        show wp
        exact ⟨rfl, _, rfl⟩
      · have nq : p ∉ L.take i := by simpa using k
        show wp
        have pw := put_seen (h := H ++ [.dK (seenV (L.take i))]) (m := H.length) (p := p) get_last nq (by rw [List.length_take]; unfold szLine; omega)
        rw [set_last, ← take_snoc ep] at pw
        show wr pw
        refine .inl ⟨.inl rfl, _, by omega, ?_, rfl, rfl⟩
        rw [take_snoc ep, List.nodup_append]
        exact ⟨nd, by simp, fun a ha b hb e => by rw [List.mem_singleton.mp hb] at e; exact nq (e ▸ ha)⟩
  rintro s1 h1 ⟨o3, il, nd, rfl, rfl⟩
  rw [List.length_map, List.take_length] at nd
  rw [List.length_map, List.take_length, decide_eq_true nd, Bool.true_and]
  show wp
  rw [List.length_map]
  refine wlcA (fun i : Nat => MV.int (0 + (i : Int))) (fun i => MV.bl (decide (prevI L i ∈ rowsAt W (L.getD i 0)))) (List.range L.length) (by unfold rngM; rw [show ((L.length : Nat) : Int).toNat = L.length by omega]) (by rw [List.length_range]; omega) (fun i hi => ?_) ?_
  · rw [List.mem_range] at hi
    have ei := List.getElem?_eq_getElem hi
    rw [show L.getD i 0 = L[i] by rw [List.getD_eq_getElem?_getD, ei]; rfl]
    generalize L[i] = y at ei
    have hy := hk y (List.mem_of_getElem? ei)
    have e2 : atM (L.map MV.int) (0 + (i : Int)) = some (.int y) := by
      rw [Int.zero_add]
      exact at_nat (by rw [List.getElem?_map, ei]; rfl)
    have e1 : atM (L.map MV.int) (0 + (i : Int) - 1) = some (.int (prevI L i)) := by
      by_cases z : i = 0
      · subst z
        have hl : L.length - 1 < L.length := by omega
        have el := List.getElem?_eq_getElem hl
        rw [show prevI L 0 = L[L.length - 1] by unfold prevI; rw [show (0 + L.length - 1) % L.length = L.length - 1 by rw [Nat.zero_add, Nat.mod_eq_of_lt hl], List.getD_eq_getElem?_getD, el]; rfl]
        generalize L[L.length - 1] = x at el
        rw [show (0 : Int) + ((0 : Nat) : Int) - 1 = -1 from rfl]
        unfold atM ixM
        rw [if_neg (by decide), if_pos (by rw [List.length_map]; omega), List.length_map, show ((-1 : Int) + (L.length : Nat)).toNat = L.length - 1 by omega]
        show (L.map MV.int)[L.length - 1]? = _
        rw [List.getElem?_map, el]; rfl
      · obtain ⟨j, rfl⟩ : ∃ j, i = j + 1 := ⟨i - 1, by omega⟩
        have hj : j < L.length := by omega
        have ej := List.getElem?_eq_getElem hj
        rw [show prevI L (j + 1) = L[j] by unfold prevI; rw [show (j + 1 + L.length - 1) = j + L.length by omega, Nat.add_mod_right, Nat.mod_eq_of_lt hj, List.getD_eq_getElem?_getD, ej]; rfl]
        generalize L[j] = x at ej
        rw [show (0 : Int) + ((j + 1 : Nat) : Int) - 1 = (j : Int) by omega]
        exact at_nat (by rw [List.getElem?_map, ej]; rfl)
    show wp
    show wr e1
    show wr e2
    obtain ⟨ry, ery⟩ := mem_rowOf hy
    show wr (ix_websV ery)
    exact ⟨by rw [rowsAt_of ery], rfl, rfl⟩
  show wp
  show wr (all_of _ _ _)
  exact ⟨rfl, _, rfl⟩
theorem ring_no {D v : MV} (e : ∀ H, fIsi "tuple" H [v] = some (.bl false)) (H : MH) : g_is_ring [D, v] H = some (.bl false, H) := by
  refine we_eq (d_is_ring ?_)
  unfold b_is_ring
  show wp
  refine wv_of (e H) (kV_bl (kB_t (kB_t ?_)))
  show wp
  exact ⟨rfl, rfl⟩
/-! the law's own look -/
def dueB (W : WL) (L : List Int) : Bool := decide (3 ≤ L.length) && (decide L.Nodup && (List.range L.length).all fun i => decide (L.getD i 0 ∈ rowsAt W (L.getD ((i + 1) % L.length) 0)))
theorem due_ring (W : WL) (L : List Int) : dueB W L = ringB W L := by
  unfold dueB ringB
  by_cases l : 3 ≤ L.length
  · congr 2
    rw [Bool.eq_iff_iff, List.all_eq_true, List.all_eq_true]
    simp only [List.mem_range, decide_eq_true_eq]
    constructor
    · intro h i hi
      have lt := Nat.mod_lt (i + L.length - 1) (show 0 < L.length by omega)
      have := h _ lt
      unfold prevI
      rw [show ((i + L.length - 1) % L.length + 1) % L.length = i by
        rw [Nat.mod_add_mod, show i + L.length - 1 + 1 = i + L.length by omega, Nat.add_mod_right, Nat.mod_eq_of_lt hi]] at this
      exact this
    · intro h i hi
      have lt := Nat.mod_lt (i + 1) (show 0 < L.length by omega)
      have := h _ lt
      unfold prevI at this
      rw [show ((i + 1) % L.length + L.length - 1) % L.length = i by
        by_cases z : i + 1 = L.length
        · rw [z, Nat.mod_self, Nat.zero_add, Nat.mod_eq_of_lt (by omega)]; omega
        · rw [Nat.mod_eq_of_lt (show i + 1 < L.length by omega), show i + 1 + L.length - 1 = i + L.length by omega, Nat.add_mod_right, Nat.mod_eq_of_lt hi]] at this
      exact this
  · rw [decide_eq_false l, Bool.false_and, Bool.false_and]
theorem cnt_ints (L : List Int) (p : Int) : (L.map MV.int).countP (cntB p) = L.count p := by
  induction L with
  | nil => rfl
  | cons x L ih => rw [List.map_cons, List.countP_cons, List.count_cons, ih]; rfl
def ptM : MV → Bool
  | .int i => decide (0 ≤ i) && decide (i ≤ 999)
  | _ => false
theorem pt_at {v : MV} (a : atomC v = true) (h : MH) : g__law_is_point [v] h = some (.bl (ptM v), h) := by
  cases v <;> simp only [atomC, reduceCtorEq] at a
  case int i =>
    refine we_eq (d__law_is_point ?_)
    unfold b__law_is_point
    show wp
    by_cases k : (0 : Int) ≤ i
    · rw [decide_eq_true k]
      refine kB_t ?_
      show wp
      exact ⟨by simp [ptM, k], rfl⟩
    · rw [decide_eq_false k]
      refine kB_f ?_
      show wp
      exact ⟨by simp [ptM, k], rfl⟩
  all_goals rfl
theorem due_part {W : WL} {L : List Int} {u : MV} {rest : List MV} (o : Odd W L u rest) (H : MH) :
    We (g__law_due [.dK (websV W), .row (L.map .int ++ u :: rest)] H) fun v h => v = .bl false ∧ h = H := by
  have hl := o.l
  have all : (L.map MV.int ++ u :: rest).all atomC = true := by
    rw [List.all_append, List.all_cons, o.a, Bool.true_and, Bool.and_eq_true]
    exact ⟨List.all_eq_true.mpr fun x hx => by obtain ⟨i, _, rfl⟩ := List.mem_map.mp hx; rfl, List.all_eq_true.mpr o.r⟩
  refine d__law_due ?_
  unfold b__law_due B1__law_due
  show wp
  refine br_dec (fun _ => ?_) (fun _ => ?_)
  · show wp
    exact ⟨rfl, rfl⟩
  show wp
  refine wforR (fun i s1 h1 => ∃ o2, i ≤ L.length ∧ s1 = [some (.dK (websV W)), some (.row (L.map .int ++ u :: rest)), o2, none] ∧ h1 = H) ⟨none, by omega, rfl, rfl⟩ ?_ ?_
  · rintro i x s1 h1 ex ⟨o2, il, rfl, rfl⟩
    by_cases q : i < L.length
    · rw [List.getElem?_append_left (by rw [List.length_map]; exact q), List.getElem?_map] at ex
      have ep := List.getElem?_eq_getElem q
      generalize L[i] = p at ep
      rw [ep] at ex; cases ex
      show wp
      show wr (pt_at (v := .int p) rfl _)
      refine br_by (fun k => ?_) (fun k => ?_)
      · show wp
        refine .inr (.inr ⟨_, rfl, ?_⟩)
        show wp
        exact ⟨rfl, rfl⟩
      show wp
      refine br_by (fun k => ?_) (fun k => ?_)
      · show wp
        refine .inr (.inr ⟨_, rfl, ?_⟩)
        show wp
        exact ⟨rfl, rfl⟩
      show wp
      refine wv_countV all ?_
      show wp
      refine br_by (fun k => ?_) (fun k => ?_)
      · show wp
        refine .inr (.inr ⟨_, rfl, ?_⟩)
        show wp
        exact ⟨rfl, rfl⟩
      show wp
      exact .inl ⟨.inl rfl, _, by omega, rfl, rfl⟩
    · have ie : i = L.length := by omega
      subst ie
      rw [List.getElem?_append_right (by rw [List.length_map]; omega), List.length_map, Nat.sub_self] at ex
      cases ex
      show wp
      show wr (pt_at o.a _)
      have on := o.n
      have oa := o.a
      cases u <;> simp only [atomC, reduceCtorEq] at oa
      case int i =>
        simp only [pointB, decide_eq_false_iff_not] at on
        refine br_by (fun k => ?_) (fun k => ?_)
        · show wp
          refine .inr (.inr ⟨_, rfl, ?_⟩)
          show wp
          exact ⟨rfl, rfl⟩
        show wp
        refine br_t (by simpa using on) ?_
        show wp
        refine .inr (.inr ⟨_, rfl, ?_⟩)
        show wp
        exact ⟨rfl, rfl⟩
      all_goals
        refine br_t rfl ?_
        show wp
        refine .inr (.inr ⟨_, rfl, ?_⟩)
        show wp
        exact ⟨rfl, rfl⟩
  · rintro s h ⟨o3, il, _, _⟩
    simp only [List.length_append, List.length_map, List.length_cons] at il
    omega
theorem due_no {D v : MV} (e : ∀ H, fIsi "tuple" H [v] = some (.bl false)) (H : MH) : g__law_due [D, v] H = some (.bl false, H) := by
  refine we_eq (d__law_due ?_)
  unfold b__law_due
  show wp
  refine wv_of (e H) (kV_bl (kB_t (kB_t ?_)))
  show wp
  exact ⟨rfl, rfl⟩
theorem due_good {W : WL} (nW : Names (keysOf' W)) {L : List Int} (lL : L.length ≤ 3000) (hk : ∀ p ∈ L, p ∈ keysOf' W) (H : MH) :
    We (g__law_due [.dK (websV W), .row (L.map .int)] H) fun v h => v = .bl (dueB W L) ∧ h = H := by
  have all : (L.map MV.int).all atomC = true := List.all_eq_true.mpr fun x hx => by obtain ⟨i, _, rfl⟩ := List.mem_map.mp hx; rfl
  refine d__law_due ?_
  unfold b__law_due B1__law_due B2__law_due dueB
  show wp
  refine br_dec (fun l => ?_) (fun l => ?_)
  · rw [List.length_map] at l
    rw [decide_eq_false (by omega), Bool.false_and]
    show wp
    exact ⟨rfl, rfl⟩
  rw [List.length_map] at l
  rw [decide_eq_true (show 3 ≤ L.length by omega), Bool.true_and]
  show wp
  refine wforR (fun i s1 h1 => ∃ o2, (∀ p ∈ L.take i, L.count p ≤ 1) ∧ s1 = [some (.dK (websV W)), some (.row (L.map .int)), o2, none] ∧ h1 = H) ⟨none, by simp, rfl, rfl⟩ ?_ ?_
  · rintro i x s1 h1 ex ⟨o2, cl, rfl, rfl⟩
    rw [List.getElem?_map] at ex
    cases ep : L[i]? with
    | none => rw [ep] at ex; cases ex
    | some p =>
      rw [ep] at ex; cases ex
      have hp := hk p (List.mem_of_getElem? ep)
      have bp := nW.2 p hp
      show wp
      show wr (pt_at (v := .int p) rfl _)
      refine br_f (by simp [ptM]; omega) ?_
      show wp
      refine br_f (by simpa using hp) ?_
      show wp
      refine wv_countV all ?_
      rw [cnt_ints]
      show wp
      refine br_dec (fun k => ?_) (fun k => ?_)
      · have nn : ¬ L.Nodup := fun n => by
          have := List.nodup_iff_count.mp n p
          omega
        rw [decide_eq_false nn, Bool.false_and]
        show wp
        refine .inr (.inr ⟨_, rfl, ?_⟩)
        show wp
        exact ⟨rfl, rfl⟩
      · show wp
        refine .inl ⟨.inl rfl, _, fun y hy => ?_, rfl, rfl⟩
        rw [take_snoc ep] at hy
        rcases List.mem_append.mp hy with z | z
        · exact cl y z
        · rw [List.mem_singleton.mp z]; omega
  rintro s1 h1 ⟨o2, cl, rfl, rfl⟩
  rw [List.length_map, List.take_length] at cl
  have nd : L.Nodup := List.nodup_iff_count.mpr fun p => by
    by_cases hp : p ∈ L
    · exact cl p hp
    · rw [List.count_eq_zero.mpr hp]; omega
  rw [decide_eq_true nd, Bool.true_and]
  show wp
  rw [List.length_map]
  refine kN_int (j := (L.length : Nat)) ⟨by omega, by omega⟩ ?_
  show wp
  refine wforR (fun i s1 h2 => ∃ o3, (∀ j < i, L.getD j 0 ∈ rowsAt W (L.getD ((j + 1) % L.length) 0)) ∧ s1 = [some (.dK (websV W)), some (.row (L.map .int)), o2, o3] ∧ h2 = h1) ⟨none, fun j hj => by omega, rfl, rfl⟩ ?_ ?_
  · rintro i x s2 h2 ex ⟨o3, ok, rfl, rfl⟩
    obtain ⟨rfl, hi⟩ := rng_at ex
    have hi : i < L.length := by omega
    have ei := List.getElem?_eq_getElem hi
    have lt := Nat.mod_lt (i + 1) (show 0 < L.length by omega)
    have ej := List.getElem?_eq_getElem lt
    have g1 : L.getD i 0 = L[i] := by rw [List.getD_eq_getElem?_getD, ei]; rfl
    have g2 : L.getD ((i + 1) % L.length) 0 = L[(i + 1) % L.length] := by rw [List.getD_eq_getElem?_getD, ej]; rfl
    have a1 : atM (L.map MV.int) (0 + (i : Int)) = some (.int (L.getD i 0)) := by
      rw [Int.zero_add, g1]
      exact at_nat (by rw [List.getElem?_map, ei]; rfl)
    have a2 : atM (L.map MV.int) ((0 + (i : Int) + 1) % (L.length : Nat)) = some (.int (L.getD ((i + 1) % L.length) 0)) := by
      rw [show (0 + (i : Int) + 1) % (L.length : Nat) = (((i + 1) % L.length : Nat) : Int) by rw [Int.zero_add]; rfl, g2]
      exact at_nat (by rw [List.getElem?_map, ej]; rfl)
    have hy := hk _ (List.mem_of_getElem? ej)
    rw [← g2] at hy
    obtain ⟨ry, ery⟩ := mem_rowOf hy
    have lz : (0 : Int) < (((L.map MV.int).length : Nat) : Int) := by rw [List.length_map]; omega
    show wp
    show wr a1
    rw [List.length_map]
    show wr a2
    show wr (ix_websV ery)
    refine br_by (fun k => ?_) (fun k => ?_)
    · have k : L.getD i 0 ∉ ry := by simpa using k
      have : (List.range L.length).all (fun i => decide (L.getD i 0 ∈ rowsAt W (L.getD ((i + 1) % L.length) 0))) = false := by
        rw [List.all_eq_false]
        exact ⟨i, List.mem_range.mpr hi, by rw [rowsAt_of ery]; simpa using k⟩
      rw [this]
      show wp
      refine .inr (.inr ⟨_, rfl, ?_⟩)
      show wp
      exact ⟨rfl, rfl⟩
    · have k : L.getD i 0 ∈ ry := by simpa using k
      show wp
      refine .inl ⟨.inl rfl, _, fun j hj => ?_, rfl, rfl⟩
      by_cases z : j = i
      · subst z; rw [rowsAt_of ery]; exact k
      · exact ok j (by omega)
  · rintro s2 h2 ⟨o3, ok, rfl, rfl⟩
    rw [show (List.range L.length).all (fun i => decide (L.getD i 0 ∈ rowsAt W (L.getD ((i + 1) % L.length) 0))) = true from List.all_eq_true.mpr fun i hi => decide_eq_true (ok i (by
      have := List.mem_range.mp hi
      unfold rngM
      rw [List.length_map, List.length_range]
      omega))]
    show wp
    exact ⟨rfl, rfl⟩
theorem nx_app {H : MH} {d : Nat} {ds : List Int} (hd : d < H.length) (X : MH) : g__law_next [.ref d] (H.set d (.lst (ds.map .int)) ++ X) = some (.int (ds.headD 0), H.set d (.lst (ds.tail.map .int)) ++ X) := by
  rw [next_at ds d _ (by rw [List.getElem?_append_left (by rw [List.length_set]; exact hd)]; exact get_set hd), List.set_append_left _ _ (by rw [List.length_set]; exact hd), List.set_set]
theorem lc_get (H : MH) (d : Nat) (c x : MC) : (H.set d c ++ [x])[H.length]? = some x := by
  rw [List.getElem?_append_right (by rw [List.length_set]; exact Nat.le_refl _), List.length_set, Nat.sub_self]; rfl
theorem lc_set (H : MH) (d : Nat) (c x y : MC) : (H.set d c ++ [x]).set H.length y = H.set d c ++ [y] := by
  rw [List.set_append_right _ _ (by rw [List.length_set]; exact Nat.le_refl _), List.length_set, Nat.sub_self]; rfl
theorem at_m1 (xs : List MV) (x : MV) : atM (xs ++ [x]) (-1) = some x := by
  unfold atM ixM
  rw [if_neg (by decide), if_pos (by rw [List.length_append]; simp; omega)]
  rw [show ((-1 : Int) + ((xs ++ [x]).length : Nat)).toNat = xs.length by rw [List.length_append]; simp; omega]
  simp
theorem row_keys {W : WL} (w : Web W) {u : Int} {r : List Int} (e : rowOf W u = some r) : ∀ v ∈ r, v ∈ keysOf' W := fun v hv => by
  obtain ⟨r', er, _⟩ := w.sym u v r e hv
  exact rowOf_mem er
theorem row_few {W : WL} (w : Web W) {u : Int} {r : List Int} (e : rowOf W u = some r) : r.length ≤ W.length := by
  have := sub_len (w.row u r e).1 (row_keys w e)
  rw [keys_len] at this; omega
theorem walk_at {W : WL} (w : Web W) (kl : W.length ≤ 200) (ne : W ≠ []) (H : MH) (d : Nat) (ds : List Int) (e : H[d]? = some (.lst (ds.map .int))) (hD : Drawn ds) :
    ∃ L ds', Drawn ds' ∧ (toldF g__law_walk) [.dK (websV W), .ref d] H = some (.lst (L.map .int), H.set d (.lst (ds'.map .int))) ∧ L ≠ [] ∧ L.length ≤ 20 ∧ ∀ p ∈ L, p ∈ keysOf' W := by
  have hd : d < H.length := (List.getElem?_eq_some_iff.mp e).1
  suffices raw : We (g__law_walk [.dK (websV W), .ref d] H) fun v h => ∃ L ds' T m, Drawn ds' ∧ v = .ref m ∧ H.length ≤ m ∧ h = H.set d (.lst (ds'.map .int)) ++ T ∧ h[m]? = some (.lst (L.map .int)) ∧ L ≠ [] ∧ L.length ≤ 20 ∧ ∀ p ∈ L, p ∈ keysOf' W by
    obtain ⟨v, h, er, L, ds', T, m, D', rfl, hm, rfl, gm, nL, lL, kL⟩ := raw
    exact ⟨L, ds', D', toldF_lst er gm hm (plain_ints _) (by simp) (set_plain (plain_ints _)), nL, lL, kL⟩
  have en := next_at ds d H e
  obtain ⟨n0, n1⟩ := hD.head
  have D1 := hD.tail
  generalize ds.headD 0 = n at n0 n1 en
  generalize ds.tail = ds1 at D1 en
  have hne : sortI (keysOf' W) ≠ [] := fun z => by
    have := (sortI_perm (keysOf' W)).length_eq
    rw [z, keys_len] at this
    exact ne (List.length_eq_zero_iff.mp this.symm)
  have hlen : 0 < (((sortI (keysOf' W)).map MV.int).length : Int) := by
    have := List.length_pos_iff.mpr hne
    rw [List.length_map]; omega
  refine d__law_walk ?_
  unfold b__law_walk
  show wp
  show wr en
  refine wv_pick n0 hne fun s hs => ?_
  have hs' := (sortI_perm _).mem_iff.mp hs
  have en2 := nx_app (H := H) (d := d) (ds := ds1) hd [.lst ([s].map .int)]
  obtain ⟨m0, m1⟩ := D1.head
  have D2 := D1.tail
  generalize ds1.headD 0 = m at m0 m1 en2
  generalize ds1.tail = ds2 at D2 en2
  show wp
  rw [List.length_set]
  show wr en2
  have c0 : ∀ ds (L : List Int), opIx (H.set d (.lst (List.map MV.int ds)) ++ [.lst (L.map .int)]) (.ref H.length) (.int 0) = atM (L.map .int) 0 := fun ds L => by
    simp only [opIx, seqOf, listOf, lc_get]
  have cm : ∀ ds (L : List Int) (x : Int), opIx (H.set d (.lst (List.map MV.int ds)) ++ [.lst ((L ++ [x]).map .int)]) (.ref H.length) (.int (-1)) = some (.int x) := fun ds L x => by
    simp only [opIx, seqOf, listOf, lc_get]
    rw [List.map_append]
    exact at_m1 _ _
  have eL : ∀ ds (L : List Int), fLen (H.set d (.lst (List.map MV.int ds)) ++ [.lst (L.map .int)]) [.ref H.length] = some (.int (L.length : Nat)) := fun ds L => by
    simp only [fLen, seqOf, listOf, lc_get]
    rw [List.length_map]
  have eIn : ∀ ds (L : List Int) (x : Int), opNotIn (H.set d (.lst (List.map MV.int ds)) ++ [.lst (L.map .int)]) (.int x) (.ref H.length) = some (.bl (!decide (x ∈ L))) := fun ds L x => by
    have g := lc_get H d (.lst (List.map MV.int ds)) (.lst (L.map .int))
    simp only [opNotIn, seqOf, listOf, g, in_ints]; rfl
  obtain ⟨r, er⟩ := mem_rowOf hs'
  show wr ((c0 ds2 [s]).trans at_0)
  show wr (ix_websV er)
  refine wp_mono (wwhileN (Q := fun f s1 h1 => f = .nx ∧ ∃ ds L R, Drawn ds ∧ L ≠ [] ∧ L.length ≤ 11 ∧ (∀ p ∈ L, p ∈ keysOf' W) ∧ s1 = [some (.dK (websV W)), some (.ref d), some (.lst ((sortI (keysOf' W)).map .int)), some (.ref H.length), some (.int (3 + m % 8)), some (.lst (List.map MV.int R)), none, none, none] ∧ h1 = H.set d (.lst (List.map MV.int ds)) ++ [.lst (List.map MV.int L)])
    (fun k s1 h1 => ∃ ds L R, Drawn ds ∧ L ≠ [] ∧ L.length + k = 11 ∧ (∀ p ∈ L, p ∈ keysOf' W) ∧ (∀ p ∈ R, p ∈ keysOf' W) ∧ R.length ≤ 200 ∧ s1 = [some (.dK (websV W)), some (.ref d), some (.lst ((sortI (keysOf' W)).map .int)), some (.ref H.length), some (.int (3 + m % 8)), some (.lst (List.map MV.int R)), none, none, none] ∧ h1 = H.set d (.lst (List.map MV.int ds)) ++ [.lst (List.map MV.int L)]) 10
    ⟨ds2, [s], r, D2, by simp, rfl, by simpa using hs', row_keys w er, by have := row_few w er; omega, rfl, rfl⟩ ?_) ?_
  · rintro k s1 h1 ⟨ds, L, R, D, nL, lL, kL, kR, lR, rfl, rfl⟩
    unfold W1__law_walk B1__law_walk
    show wp
    show wr (ne_lst _ R [])
    refine br_by (fun z => ?_) (fun z => ?_)
    · have nR : R ≠ [] := by simpa using z
      show wp
      show wr (eL ds L)
      refine br_dec (fun z2 => ?_) (fun z2 => ?_)
      · have en3 := nx_app (H := H) (d := d) (ds := ds) hd [.lst (L.map .int)]
        obtain ⟨q0, q1⟩ := D.head
        have D3 := D.tail
        generalize ds.headD 0 = q at q0 q1 en3
        generalize ds.tail = ds3 at D3 en3
        have k0 : k ≠ 0 := fun z => by omega
        show wp
        refine we_append (we_var rfl ⟨_, _, rfl, lc_get _ _ _ _, ?_⟩)
        show wp
        show wr en3
        have lR0 : 0 < (((R.map MV.int).length : Nat) : Int) := by
          have := List.length_pos_iff.mpr nR
          rw [List.length_map]; omega
        refine wv_mod lR0 ?_
        show wp
        refine wv_pick q0 nR fun y hy => ?_
        refine ⟨_, lc_get _ _ _ _, by rw [List.length_map]; omega, ?_⟩
        rw [lc_set, show L.map MV.int ++ [.int y] = (L ++ [y]).map .int by rw [List.map_append]; rfl]
        obtain ⟨ry, ery⟩ := mem_rowOf (kR y hy)
        show wp
        show wr (cm ds3 L y)
        show wr (ix_websV ery)
        refine wlc MV.int (fun p => !decide (p ∈ L ++ [y])) MV.int ry rfl (by have := row_few w ery; omega) (fun p hp => ?_) ?_
        · show wp
          show wr (eIn ds3 (L ++ [y]) p)
          exact ⟨rfl, rfl, fun _ _ => by show wp; exact ⟨rfl, rfl⟩, rfl⟩
        show wp
        have lf := List.length_filter_le (fun p => !decide (p ∈ L ++ [y])) ry
        have lr := row_few w ery
        refine ⟨.inl rfl, k - 1, by omega, ds3, L ++ [y], ry.filter fun p => !decide (p ∈ L ++ [y]), D3, by simp, by rw [List.length_append, List.length_singleton]; omega, fun p hp => ?_, fun p hp => row_keys w ery p ((List.mem_filter.mp hp).1), by omega, rfl, rfl⟩
        rcases List.mem_append.mp hp with hp | hp
        · exact kL p hp
        · rw [List.mem_singleton.mp hp]; exact kR y hy
      · show wp
        exact ⟨rfl, ds, L, R, D, nL, by omega, kL, rfl, rfl⟩
    · refine kB_f ?_
      show wp
      exact ⟨rfl, ds, L, R, D, nL, by omega, kL, rfl, rfl⟩
  rintro f s1 h1 ⟨rfl, ds, L, R, D, nL, lL, kL, rfl, rfl⟩
  refine kS_nx ?_
  show wp
  show wr (eL ds L)
  have l0 : 0 < L.length := List.length_pos_iff.mpr nL
  have e0 := List.getElem?_eq_getElem l0
  generalize hx : L[0] = x at e0
  have a0 : atM (L.map MV.int) 0 = some (.int x) := at_nat (i := 0) (by rw [List.getElem?_map, e0]; rfl)
  have ak : ∀ j : Nat, 3 + j ≤ L.length → opIx (H.set d (.lst (List.map MV.int ds)) ++ [.lst (L.map .int)]) (.ref H.length) (.int (3 + (j : Int) - 1)) = some (.int (L.getD (2 + j) 0)) := fun j hj => by
    have ej := List.getElem?_eq_getElem (show 2 + j < L.length by omega)
    simp only [opIx, seqOf, listOf, lc_get]
    rw [show (3 + (j : Int) - 1) = ((2 + j : Nat) : Int) by omega, List.getD_eq_getElem?_getD, ej]
    exact at_nat (by rw [List.getElem?_map, ej]; rfl)
  refine wlc (fun j : Nat => MV.int (3 + (j : Int))) (fun j => decide (x ∈ rowsAt W (L.getD (2 + j) 0))) (fun j => .int (3 + (j : Int))) (List.range ((L.length : Int) + 1 - 3).toNat) rfl (by rw [List.length_range]; omega) (fun j hj => ?_) ?_
  · have hj := List.mem_range.mp hj
    have ej := List.getElem?_eq_getElem (show 2 + j < L.length by omega)
    have hy : L.getD (2 + j) 0 ∈ keysOf' W := by
      rw [List.getD_eq_getElem?_getD, ej]
      exact kL _ (List.mem_of_getElem? ej)
    obtain ⟨ry, ery⟩ := mem_rowOf hy
    show wp
    show wr ((c0 ds L).trans a0)
    show wr (ak j (by omega))
    show wr (ix_websV ery)
    exact ⟨by rw [rowsAt_of ery], rfl, fun _ _ => by show wp; exact ⟨rfl, rfl⟩, rfl⟩
  show wp
  generalize hC : (List.range ((L.length : Int) + 1 - 3).toNat).filter (fun j => decide (x ∈ rowsAt W (L.getD (2 + j) 0))) = C
  have eC : C.map (fun j : Nat => MV.int (3 + (j : Int))) = (C.map fun j : Nat => 3 + (j : Int)).map .int := by rw [List.map_map]; rfl
  rw [eC]
  have lC : ∀ c ∈ C, 3 + c ≤ L.length := fun c hc => by
    rw [← hC] at hc
    have := List.mem_range.mp (List.mem_filter.mp hc).1
    omega
  show wr (ne_lst _ (C.map fun j : Nat => 3 + (j : Int)) [])
  refine br_by (fun z => ?_) (fun z => ?_)
  · have nC : C ≠ [] := fun e => by rw [e] at z; cases z
    have en3 := nx_app (H := H) (d := d) (ds := ds) hd [.lst (L.map .int)]
    obtain ⟨q0, q1⟩ := D.head
    have D3 := D.tail
    generalize ds.headD 0 = q at q0 q1 en3
    generalize ds.tail = ds3 at D3 en3
    show wp
    show wr en3
    refine br_dec (fun z2 => ?_) (fun z2 => ?_)
    · obtain ⟨C', c, hc⟩ : ∃ C' c, C = C' ++ [c] := ⟨C.dropLast, C.getLast nC, (List.dropLast_concat_getLast nC).symm⟩
      have lc := lC c (by rw [hc]; simp)
      have em : atM (List.map MV.int (C.map fun j : Nat => 3 + (j : Int))) (-1) = some (.int (3 + (c : Int))) := by
        rw [hc, List.map_append, List.map_append]
        exact at_m1 _ _
      show wp
      refine wv_of em ?_
      refine ⟨_, rfl, L.map .int, by simp only [listOf, lc_get], ?_⟩
      rw [show (3 + (c : Int)) = ((3 + c : Nat) : Int) by omega, cut_to (by omega), Int.toNat_natCast, ← List.map_take]
      show wp
      refine ⟨L.take (3 + c), ds3, [.lst (L.map .int), .lst ((L.take (3 + c)).map .int)], _, D3, rfl, ?_, by rw [List.append_assoc]; rfl, get_last, ?_, by rw [List.length_take]; omega, fun p hp => kL p (List.mem_of_mem_take hp)⟩
      · rw [List.length_append, List.length_set]; omega
      · intro e
        have := congrArg List.length e
        rw [List.length_take] at this
        simp only [List.length_nil] at this
        omega
    · show wp
      exact ⟨L, ds3, [.lst (L.map .int)], H.length, D3, rfl, by omega, rfl, lc_get _ _ _ _, nL, by omega, kL⟩
  · refine kB_f ?_
    show wp
    exact ⟨L, ds, [.lst (L.map .int)], H.length, D, rfl, by omega, rfl, lc_get _ _ _ _, nL, by omega, kL⟩
theorem cut_a (r : List Int) (a : Nat) : cutM (r.map MV.int) none (some (a : Int)) = (r.take a).map .int := by
  rw [cut_to (by omega), Int.toNat_natCast, List.map_take]
theorem cut_b (r : List Int) (a : Nat) : cutM (r.map MV.int) (some (a : Int)) none = (r.drop a).map .int := by
  rw [cut_from (by omega), Int.toNat_natCast, List.map_drop]
theorem cut_c (r : List Int) (a : Nat) : cutM (r.map MV.int) (some ((a : Int) + 1)) none = (r.drop (a + 1)).map .int := cut_b r (a + 1)
theorem mod_nat (x : Int) {m : Int} (hm : 0 < m) : ∃ a : Nat, x % m = (a : Int) ∧ (a : Int) < m := by
  have h1 := Int.emod_nonneg x (show m ≠ 0 by omega)
  have h2 := Int.emod_lt_of_pos x hm
  exact ⟨(x % m).toNat, by omega, by omega⟩
theorem str_small {p : Int} (h0 : 0 ≤ p) (h1 : p ≤ 999) (h : MH) : fStrI h [.int p] = some (.str (toString p)) := by
  have : p.natAbs.log2 < 1920 := by
    have : p.natAbs < 2 ^ 1920 := Nat.lt_of_lt_of_le (show p.natAbs < 2 ^ 10 by omega) (Nat.pow_le_pow_right (by omega) (by omega))
    by_cases z : p.natAbs = 0
    · rw [z]; decide
    · exact (Nat.log2_lt z).mpr this
  simp only [fStrI, this, if_true]
theorem plain_app : ∀ (xs ys : List MV), plainL xs = true → plainL ys = true → plainL (xs ++ ys) = true
  | [], ys, _, h => h
  | x :: xs, ys, h, h2 => by
    rw [plainL, Bool.and_eq_true_iff] at h
    rw [List.cons_append, plainL, h.1, plain_app xs ys h.2 h2]; rfl
def RowOut (W : WL) (v : MV) : Prop := (∃ L : List Int, v = .row (L.map .int) ∧ L.length ≤ 100 ∧ ∀ p ∈ L, p ∈ keysOf' W) ∨ (∃ L u rest, v = .row (L.map .int ++ u :: rest) ∧ Odd W L u rest) ∨ ∃ xs, v = .lst xs
theorem bent_at {W : WL} (w : Web W) (nW : Names (keysOf' W)) (kl : W.length ≤ 200) (ne : W ≠ []) (L : List Int) (nL : L ≠ []) (lL : L.length ≤ 20) (hk : ∀ p ∈ L, p ∈ keysOf' W) (H : MH) (d : Nat) (ds : List Int) (e : H[d]? = some (.lst (ds.map .int))) (hD : Drawn ds) :
    ∃ ds' v, Drawn ds' ∧ (toldV g__law_bent) [.lst (L.map .int), .dK (websV W), .ref d] H = some (v, H.set d (.lst (ds'.map .int))) ∧ RowOut W v := by
  have lp := List.length_pos_iff.mpr nL
  refine ⟨ds.tail, ?_⟩
  have raw : We (g__law_bent [.lst (L.map .int), .dK (websV W), .ref d] H) fun v h => h = H.set d (.lst (ds.tail.map .int)) ∧ RowOut W v ∧ plainV v = true := by
    obtain ⟨n0, n1⟩ := hD.head
    have en := next_at ds d H e
    generalize ds.headD 0 = n at n0 n1 en
    generalize H.set d (.lst (ds.tail.map .int)) = H2 at en
    have hne : sortI (keysOf' W) ≠ [] := fun z => by
      have := (sortI_perm (keysOf' W)).length_eq
      rw [z, keys_len] at this
      exact ne (List.length_eq_zero_iff.mp this.symm)
    have sl := (sortI_perm (keysOf' W)).length_eq
    rw [keys_len] at sl
    refine d__law_bent ?_
    unfold b__law_bent
    show wp
    show wr en
    have lz : (0 : Int) < (((L.map MV.int).length : Nat) : Int) := by rw [List.length_map]; omega
    have lw : (websV W).length = W.length := by simp [websV]
    have lw0 : 0 < W.length := List.length_pos_iff.mpr ne
    obtain ⟨a, ea, ha⟩ := mod_nat (n / 7) lz
    rw [List.length_map] at ha
    have ha : a < L.length := by omega
    show wp
    rw [lw, ea]
    refine wv_pickn (f := MV.int) (xs := sortI (keysOf' W)) (by omega) hne (by rw [sl]) (fun o ho => ?_)
    have ho := (sortI_perm _).mem_iff.mp ho
    have bo := nW.2 o ho
    have ei := List.getElem?_eq_getElem ha
    have hx := hk _ (List.getElem_mem ha)
    generalize L[a] = x at ei hx
    have ga : atM (L.map MV.int) (a : Int) = some (.int x) := at_nat (by rw [List.getElem?_map, ei]; rfl)
    show wp
    show wr (str_small bo.1 (by omega) _)
    show wr ga
    refine we_of (v := .dK [(.inl x, .int x)]) (h := H2) (by
      have o1 : xOp opIx (xVar 0) (xVar 5) [some (.lst (L.map .int)), some (.dK (websV W)), some (.ref d), some (.int n), some (.int (n % 7)), some (.int (a : Int)), some (.int o), none] H2 = some (.int x, H2) := op_at rfl rfl ga
      simp only [xDisp, xPairs, o1]; rfl) ?_
    show wp
    have kt : ∀ b, ∀ p ∈ L.take b, p ∈ keysOf' W := fun b p hp => hk p (List.mem_of_mem_take hp)
    have kd : ∀ b, ∀ p ∈ L.drop b, p ∈ keysOf' W := fun b p hp => hk p (List.mem_of_mem_drop hp)
    have lt : ∀ b, (L.take b).length ≤ 20 := fun b => by rw [List.length_take]; omega
    have ld : ∀ b, (L.drop b).length ≤ 20 := fun b => by rw [List.length_drop]; omega
    have fin : ∀ M : List Int, M.length ≤ 100 → (∀ p ∈ M, p ∈ keysOf' W) → RowOut W (.row (M.map .int)) ∧ plainV (.row (M.map MV.int)) = true := fun M lM kM => ⟨.inl ⟨M, rfl, lM, kM⟩, by simp only [plainV]; exact plain_ints _⟩
    refine br_dec (fun _ => ?_) (fun _ => ?_)
    · show wp
      refine ⟨_, rfl, ?_⟩
      rw [cut_a]
      show wp
      refine wv_cat (zs := (L.take a ++ [o]).map .int) rfl rfl (by have := lt a; simp only [List.length_map, List.length_singleton]; omega) (by rw [List.map_append]; rfl) ?_
      show wp
      refine ⟨_, rfl, ?_⟩
      rw [cut_b]
      refine wv_cat (zs := (L.take a ++ [o] ++ L.drop a).map .int) rfl rfl (by have := lt a; have := ld a; simp only [List.length_map, List.length_append, List.length_singleton]; omega) (by simp only [List.map_append]) ?_
      show wp
      refine ⟨rfl, fin _ (by have := lt a; have := ld a; simp only [List.length_append, List.length_singleton]; omega) fun p hp => ?_⟩
      rcases List.mem_append.mp hp with z | z
      · rcases List.mem_append.mp z with z | z
        · exact kt a p z
        · rw [List.mem_singleton.mp z]; exact ho
      · exact kd a p z
    show wp
    refine br_dec (fun _ => ?_) (fun _ => ?_)
    · show wp
      refine ⟨_, rfl, ?_⟩
      rw [cut_a]
      show wp
      refine ⟨_, rfl, ?_⟩
      rw [cut_c]
      refine wv_cat (zs := (L.take a ++ L.drop (a + 1)).map .int) rfl rfl (by have := lt a; have := ld (a + 1); simp only [List.length_map]; omega) (by simp only [List.map_append]) ?_
      show wp
      refine ⟨rfl, fin _ (by have := lt a; have := ld (a + 1); simp only [List.length_append]; omega) fun p hp => ?_⟩
      rcases List.mem_append.mp hp with z | z
      · exact kt a p z
      · exact kd (a + 1) p z
    show wp
    refine br_dec (fun _ => ?_) (fun _ => ?_)
    · show wp
      refine ⟨_, rfl, ?_⟩
      rw [cut_a]
      show wp
      show wr ga
      refine wv_cat (zs := (L.take a ++ [x]).map .int) rfl rfl (by have := lt a; simp only [List.length_map, List.length_singleton]; omega) (by rw [List.map_append]; rfl) ?_
      show wp
      refine ⟨_, rfl, ?_⟩
      rw [cut_b]
      refine wv_cat (zs := (L.take a ++ [x] ++ L.drop a).map .int) rfl rfl (by have := lt a; have := ld a; simp only [List.length_map, List.length_append, List.length_singleton]; omega) (by simp only [List.map_append]) ?_
      show wp
      refine ⟨rfl, fin _ (by have := lt a; have := ld a; simp only [List.length_append, List.length_singleton]; omega) fun p hp => ?_⟩
      rcases List.mem_append.mp hp with z | z
      · rcases List.mem_append.mp z with z | z
        · exact kt a p z
        · rw [List.mem_singleton.mp z]; exact hx
      · exact kd a p z
    show wp
    refine br_dec (fun _ => ?_) (fun _ => ?_)
    · show wp
      refine ⟨_, rfl, ?_⟩
      rw [cut_a]
      show wp
      refine wv_pickn (f := id) (xs := [.bl true, .non, .str (Str.ofString ""), .str (Str.ofString (toString o)), .tup [.int o], .int 1000, .int (-1), .lst [.int x], .dK [(.inl x, .int x)], .lst [], .dK []]) (by omega) (by simp) rfl (fun u hu => ?_)
      have bu : atomC u = true ∧ pointB (fun p => decide (p ∈ keysOf' W)) u = false ∧ plainV u = true := by
        simp only [List.mem_cons, List.not_mem_nil, or_false] at hu
        rcases hu with rfl | rfl | rfl | rfl | rfl | rfl | rfl | rfl | rfl | rfl | rfl
        · exact ⟨rfl, rfl, rfl⟩
        · exact ⟨rfl, rfl, rfl⟩
        · exact ⟨rfl, rfl, rfl⟩
        · exact ⟨rfl, rfl, rfl⟩
        · exact ⟨rfl, rfl, rfl⟩
        · exact ⟨rfl, decide_eq_false fun z => by have := nW.2 _ z; omega, rfl⟩
        · exact ⟨rfl, decide_eq_false fun z => by have := nW.2 _ z; omega, rfl⟩
        · exact ⟨rfl, rfl, rfl⟩
        · exact ⟨rfl, rfl, rfl⟩
        · exact ⟨rfl, rfl, rfl⟩
        · exact ⟨rfl, rfl, rfl⟩
      show wp
      refine wv_cat (zs := (L.take a).map .int ++ [u]) rfl rfl (by have := lt a; simp only [List.length_map, List.length_singleton]; omega) rfl ?_
      show wp
      refine ⟨_, rfl, ?_⟩
      rw [cut_c]
      refine wv_cat (zs := (L.take a).map .int ++ u :: (L.drop (a + 1)).map .int) rfl rfl (by have := lt a; have := ld (a + 1); simp only [List.length_map, List.length_append, List.length_singleton]; omega) (by rw [List.append_assoc]; rfl) ?_
      show wp
      refine ⟨rfl, .inr (.inl ⟨L.take a, u, (L.drop (a + 1)).map .int, rfl, bu.1, bu.2.1, fun y hy => ?_, ?_⟩), ?_⟩
      · obtain ⟨i, _, rfl⟩ := List.mem_map.mp hy; rfl
      · have := lt a; have := ld (a + 1); rw [List.length_map]; omega
      · simp only [plainV]
        exact plain_app _ _ (plain_ints _) (by rw [plainL, bu.2.2, plain_ints]; rfl)
    show wp
    refine br_dec (fun _ => ?_) (fun _ => ?_)
    · show wp
      exact ⟨rfl, .inr (.inr ⟨_, rfl⟩), by simp only [plainV]; exact plain_ints _⟩
    show wp
    refine br_dec (fun _ => ?_) (fun _ => ?_)
    · show wp
      refine wv_cat (zs := (L ++ L).map .int) rfl rfl (by simp only [List.length_map]; omega) (by simp only [List.map_append]) ?_
      show wp
      refine ⟨rfl, fin _ (by simp only [List.length_append]; omega) fun p hp => ?_⟩
      rcases List.mem_append.mp hp with z | z
      · exact hk p z
      · exact hk p z
    show wp
    refine ⟨rfl, fin (sortI L) (by rw [(sortI_perm L).length_eq]; omega) fun p hp => hk p ((sortI_perm L).mem_iff.mp hp)⟩
  obtain ⟨v, h', e', rfl, bv, pv⟩ := raw
  exact ⟨v, hD.tail, toldV_at (t := []) (by rw [List.append_nil]; exact e') pv (by simp) (set_plain (plain_ints _)), bv⟩
def FalseR (W : WL) (v : MV) : Prop := ∀ H, We (g_is_ring [.dK (websV W), v] H) fun r h => r = .bl false ∧ ∃ t, h = H ++ t
theorem no_r {W : WL} {v : MV} (e : ∀ H, fIsi "tuple" H [v] = some (.bl false)) : FalseR W v := fun H => ⟨_, _, ring_no e H, rfl, [], by simp⟩
theorem part_r {W : WL} (L : List Int) (u : MV) (rest : List MV) (a : atomC u = true) (n : pointB (fun p => decide (p ∈ keysOf' W)) u = false) (r : ∀ x ∈ rest, atomC x = true) (l : L.length + rest.length ≤ 3000) : FalseR W (.row (L.map .int ++ u :: rest)) := fun H => ring_part ⟨a, n, r, l⟩ H
theorem tup0_r {W : WL} : FalseR W (.tup []) := fun H => ⟨.bl false, H, rfl, rfl, [], by simp⟩
def things1 : List MV := [.non, .bl true, .int 0, .int 7, .str (Str.ofString ""), .str (Str.ofString "abc"), .tup [], .lst [], .dK [], .row [.tup [], .tup [], .tup []], .row [.non, .non, .non], .row [.str (Str.ofString "a"), .str (Str.ofString "b"), .str (Str.ofString "c")], .dK [(.inl 0, .int 1)]]
theorem things1_r (W : WL) : ∀ v ∈ things1, FalseR W v := by
  intro v hv
  simp only [things1, List.mem_cons, List.not_mem_nil, or_false] at hv
  rcases hv with rfl | rfl | rfl | rfl | rfl | rfl | rfl | rfl | rfl | rfl | rfl | rfl | rfl
  · exact no_r (fun H => by simp only [fIsi, tyN, st_NoneType_tuple])
  · exact no_r (fun H => by simp only [fIsi, tyN, st_bool_tuple])
  · exact no_r (fun H => by simp only [fIsi, tyN, st_int_tuple])
  · exact no_r (fun H => by simp only [fIsi, tyN, st_int_tuple])
  · exact no_r (fun H => by simp only [fIsi, tyN, st_str_tuple])
  · exact no_r (fun H => by simp only [fIsi, tyN, st_str_tuple])
  · exact tup0_r
  · exact no_r (fun H => by simp only [fIsi, tyN, st_list_tuple])
  · exact no_r (fun H => by simp only [fIsi, tyN, st_dict_tuple])
  · exact part_r [] (.tup []) [.tup [], .tup []] rfl rfl (by simp [atomC]) (by simp)
  · exact part_r [] .non [.non, .non] rfl rfl (by simp [atomC]) (by simp)
  · exact part_r [] (.str _) [.str _, .str _] rfl rfl (by simp [atomC]) (by simp)
  · exact no_r (fun H => by simp only [fIsi, tyN, st_dict_tuple])
def W0 : WL := tri0 0 1 2
theorem W0_web : Web W0 := (tri0_ok (by decide) (by decide) (by decide)).web
theorem good_r (L : List Int) (b : Bool) (l : L.length ≤ 3000) (hk : ∀ p ∈ L, p ∈ keysOf' W0) (e : ringB W0 L = b) (H : MH) : We (g_is_ring [.dK (websV W0), .row (L.map .int)] H) fun r h => r = .bl b ∧ ∃ t, h = H ++ t := by
  rw [← e]; exact ring_good l hk H
def things3 : List MV := [.row [.bl false, .int 1, .int 2], .row [.int 0, .bl true, .int 2], .row [.int 0, .int 1], .row [.int 0, .int 1, .int 2, .int 0], .row [.int 0, .int 1, .int 1], .lst [.int 0, .int 1, .int 2], .row [.int 0, .int 1, .int 3], .row [.lst [.int 0], .int 1, .int 2], .row [.int 0, .int 1, .dK []]]
theorem things3_r : ∀ v ∈ things3, FalseR W0 v := by
  intro v hv
  simp only [things3, List.mem_cons, List.not_mem_nil, or_false] at hv
  rcases hv with rfl | rfl | rfl | rfl | rfl | rfl | rfl | rfl | rfl
  · exact part_r [] (.bl false) [.int 1, .int 2] rfl rfl (by simp [atomC]) (by simp)
  · exact part_r [0] (.bl true) [.int 2] rfl rfl (by simp [atomC]) (by simp)
  · exact good_r [0, 1] false (by simp) (by decide) (by decide)
  · exact good_r [0, 1, 2, 0] false (by simp) (by decide) (by decide)
  · exact good_r [0, 1, 1] false (by simp) (by decide) (by decide)
  · exact no_r (fun H => by simp only [fIsi, tyN, st_list_tuple])
  · exact part_r [0, 1] (.int 3) [] rfl (by decide) (by simp) (by simp)
  · exact part_r [] (.lst [.int 0]) [.int 1, .int 2] rfl rfl (by simp [atomC]) (by simp)
  · exact part_r [0, 1] (.dK []) [] rfl rfl (by simp) (by simp)
def things2 : List MV := [.row [.int 0, .int 1, .int 2], .row [.int 2, .int 1, .int 0], .row [.int 1, .int 2, .int 0]]
theorem things2_r : ∀ v ∈ things2, ∀ H, We (g_is_ring [.dK (websV W0), v] H) fun r h => r = .bl true ∧ ∃ t, h = H ++ t := by
  intro v hv
  simp only [things2, List.mem_cons, List.not_mem_nil, or_false] at hv
  rcases hv with rfl | rfl | rfl
  · exact good_r [0, 1, 2] true (by simp) (by decide) (by decide)
  · exact good_r [2, 1, 0] true (by simp) (by decide) (by decide)
  · exact good_r [1, 2, 0] true (by simp) (by decide) (by decide)
theorem small_at (W : WL) (H : MH) : We (g__law_small [.dK (websV W)] H) fun v h => v = .bl true ∧ ∃ t, h = H ++ t := by
  refine d__law_small ?_
  unfold b__law_small B1__law_small B2__law_small B3__law_small
  show wp
  refine we_of (v := .dK [(.inl 0, .int 1)]) rfl ?_
  show wp
  refine wfor (fun i s h => ∃ o1 t, s = [some (.dK (websV W)), o1, none, none, none] ∧ h = H ++ t) ⟨none, [], rfl, by simp⟩ ?_ ?_
  · rintro i x s h ex ⟨o1, t, rfl, rfl⟩
    have hx : x ∈ things1 := List.mem_of_getElem? ex
    show wp
    refine we_mono (things1_r W x hx _) ?_
    rintro _ _ ⟨rfl, t2, rfl⟩
    show wp
    exact ⟨.inl rfl, _, t ++ t2, rfl, by rw [List.append_assoc]⟩
  rintro s h ⟨o1, t, rfl, rfl⟩
  show wp
  refine we_of (v := .dK (websV W0)) rfl ?_
  show wp
  refine wfor (fun i s h => ∃ o3 t, s = [some (.dK (websV W)), o1, some (.dK (websV W0)), o3, none] ∧ h = H ++ t) ⟨none, t, rfl, rfl⟩ ?_ ?_
  · rintro i x s h ex ⟨o3, t, rfl, rfl⟩
    have hx : x ∈ things2 := List.mem_of_getElem? ex
    show wp
    refine we_mono (things2_r x hx _) ?_
    rintro _ _ ⟨rfl, t2, rfl⟩
    show wp
    exact ⟨.inl rfl, _, t ++ t2, rfl, by rw [List.append_assoc]⟩
  rintro s h ⟨o3, t, rfl, rfl⟩
  show wp
  refine wfor (fun i s h => ∃ o3 t, s = [some (.dK (websV W)), o1, some (.dK (websV W0)), o3, some (.lst things3)] ∧ h = H ++ t) ⟨o3, t, rfl, rfl⟩ ?_ ?_
  · rintro i x s h ex ⟨o3, t, rfl, rfl⟩
    have hx : x ∈ things3 := List.mem_of_getElem? ex
    show wp
    refine we_mono (things3_r x hx _) ?_
    rintro _ _ ⟨rfl, t2, rfl⟩
    show wp
    exact ⟨.inl rfl, _, t ++ t2, rfl, by rw [List.append_assoc]⟩
  rintro s h ⟨o3, t, rfl, rfl⟩
  show wp
  exact ⟨rfl, t, rfl⟩
theorem ne_empty (h : MH) (W : WL) : opNe h (.dK (websV W)) (.dK []) = some (.bl (!W.isEmpty)) := by
  have d : dataKs (websV W) = true := isDs_webs W
  cases W with
  | nil => rfl
  | cons p W =>
    simp only [opNe, dictK, d, show dataKs [] = true from rfl, Bool.and_self, if_true]
    rfl
theorem says_any (a b : Bool) (h : MH) : g__law_says [.bl a, .bl b] h = some (.bl (a == b), h) := by
  cases a <;> cases b <;> rfl
theorem row_both {W : WL} (nW : Names (keysOf' W)) {v : MV} (r : RowOut W v) : ∃ b, (∀ H, We (g_is_ring [.dK (websV W), v] H) fun r h => r = .bl b ∧ ∃ t, h = H ++ t) ∧ ∀ H, We (g__law_due [.dK (websV W), v] H) fun r h => r = .bl b ∧ h = H := by
  rcases r with ⟨L, rfl, lL, hk⟩ | ⟨L, u, rest, rfl, o⟩ | ⟨xs, rfl⟩
  · refine ⟨ringB W L, fun H => ring_good (by omega) hk H, fun H => ?_⟩
    rw [← due_ring]
    exact due_good nW (by omega) hk H
  · exact ⟨false, fun H => ring_part o H, fun H => due_part o H⟩
  · exact ⟨false, no_r (fun H => by simp only [fIsi, tyN, st_list_tuple]), fun H => ⟨_, _, due_no (fun H => by simp only [fIsi, tyN, st_list_tuple]) H, rfl, rfl⟩⟩
theorem law_true (ns : List Int) (hl : ns.length ≤ 63) : ∃ h', g_law [.scr ns] (tabs0 1) = some (.bl true, h') := by
  suffices h : We (g_law [.scr ns] (tabs0 1)) fun v _ => v = .bl true by
    obtain ⟨v, h', e, rfl⟩ := h; exact ⟨h', e⟩
  refine d_law ?_
  unfold b_law
  show wp
  obtain ⟨ds, ed, hD, ld⟩ := draws_at ns hl (tabs0 1)
  show wr ed
  refine wfor (fun i s1 h1 => ∃ (ds : List Int) (T : MH) (o2 o3 o4 o5 o6 o7 o8 : Option MV), Drawn ds ∧ s1 = [some (.scr ns), some (.ref 1), o2, o3, o4, o5, o6, o7, o8] ∧ h1 = [.tab 0, .lst (ds.map .int)] ++ T) ⟨ds, [], none, none, none, none, none, none, none, hD, rfl, rfl⟩ ?_ ?_
  · rintro i x s1 h1 ex ⟨ds, T, o2, o3, o4, o5, o6, o7, o8, D, rfl, rfl⟩
    unfold B1_law
    obtain ⟨V, ds2, v, nV, lV, D2, eV⟩ := web_at ([.tab 0, .lst (ds.map .int)] ++ T) rfl 1 (by omega) ds rfl D 12 (by omega) (by omega)
    have en := next_at ds2 1 ([.tab 0, .lst (ds2.map .int)] ++ T) rfl
    obtain ⟨n0, n1⟩ := D2.head
    have D3 := D2.tail
    generalize ds2.headD 0 = n at n0 n1 en
    generalize ds2.tail = ds3 at D3 en
    show wp
    show wr eV
    show wr en
    have main : ∀ (W : WL) (ds : List Int) (w : Web W) (nW : Names (keysOf' W)) (lW : W.length ≤ 24) (D : Drawn ds), We (toldF g__law_twin [.dK (websV W)] ([.tab 0, .lst (ds.map .int)] ++ T)) fun v h1 => Wg (gNm 4 v [some (.scr ns), some (.ref 1), some x, some (.dK (websV W)), o4, o5, o6, o7, o8] h1) fun s2 h2 => kS (sSeq (sIf (xNotT (xB (xCall g__law_small (xCons (xVar 3) xNil)))) (sRet (xC (.bl false))) sNext) (sSeq (sFor (iRange1 (xC (.int 6))) (gNm 5) B2_law) (sIf (xB (xOp opNe (xVar 3) (xVar 4))) (sRet (xC (.bl false))) sNext))) (fun f s2 h2 => (f = .nx ∨ f = .ct) ∧ ∃ (ds : List Int) (T : MH) (o2 o3 o4 o5 o6 o7 o8 : Option MV), Drawn ds ∧ s2 = [some (.scr ns), some (.ref 1), o2, o3, o4, o5, o6, o7, o8] ∧ h2 = [.tab 0, .lst (ds.map .int)] ++ T) .nx s2 h2 := by
      intro W ds w nW lW D
      show wr (twin_web W w.nd (by omega) _)
      refine we_mono (small_at W _) ?_
      rintro _ _ ⟨rfl, t, rfl⟩
      rw [List.append_assoc]
      generalize T ++ t = T
      show wp
      refine wfor (fun i s1 h1 => ∃ (ds : List Int) (T : MH) (o5 o6 o7 o8 : Option MV), Drawn ds ∧ s1 = [some (.scr ns), some (.ref 1), some x, some (.dK (websV W)), some (.dK (websV W)), o5, o6, o7, o8] ∧ h1 = [.tab 0, .lst (ds.map .int)] ++ T) ⟨ds, T, _, _, _, _, D, rfl, rfl⟩ ?_ ?_
      · rintro j y s1 h1 ey ⟨ds, T, o5, o6, o7, o8, D, rfl, rfl⟩
        unfold B2_law
        show wp
        show wr (ne_empty _ W)
        refine br_by (fun k => ?_) (fun k => ?_)
        · have nW0 : W ≠ [] := fun e => by rw [e] at k; cases k
          obtain ⟨L, ds4, D4, eL, nL, lL, kL⟩ := walk_at w (by omega) nW0 ([.tab 0, .lst (ds.map .int)] ++ T) 1 ds rfl D
          obtain ⟨ds5, v, D5, eB, rv⟩ := bent_at w nW (by omega) nW0 L nL lL kL ([.tab 0, .lst (ds4.map .int)] ++ T) 1 ds4 rfl D4
          show wp
          show wr eL
          show wr eB
          refine wfor (fun i s1 h1 => ∃ (T : MH) (o8 : Option MV), s1 = [some (.scr ns), some (.ref 1), some x, some (.dK (websV W)), some (.dK (websV W)), some y, some (.lst [.row (L.map .int), v]), some (.lst (L.map .int)), o8] ∧ h1 = [.tab 0, .lst (ds5.map .int)] ++ T) ⟨T, _, rfl, rfl⟩ ?_ ?_
          · rintro i z s1 h1 ez ⟨T, o8, rfl, rfl⟩
            have hz : RowOut W z := by
              have := List.mem_of_getElem? ez
              simp only [List.mem_cons, List.not_mem_nil, or_false] at this
              rcases this with rfl | rfl
              · exact .inl ⟨L, rfl, by omega, kL⟩
              · exact rv
            obtain ⟨b, r1, r2⟩ := row_both nW hz
            unfold B3_law
            show wp
            refine we_mono (r1 _) ?_
            rintro _ _ ⟨rfl, t, rfl⟩
            show wp
            refine we_mono (r2 _) ?_
            rintro _ _ ⟨rfl, rfl⟩
            show wp
            show wr (says_any _ _ _)
            refine br_f (by simp) ?_
            show wp
            exact ⟨.inl rfl, T ++ t, _, rfl, by rw [List.append_assoc]⟩
          · rintro s1 h1 ⟨T, o8, rfl, rfl⟩
            exact ⟨.inl rfl, ds5, T, _, _, _, _, D5, rfl, rfl⟩
        · show wp
          refine wfor (fun i s1 h1 => i = 0 ∧ s1 = [some (.scr ns), some (.ref 1), some x, some (.dK (websV W)), some (.dK (websV W)), some y, some (.lst []), o7, o8] ∧ h1 = [.tab 0, .lst (ds.map .int)] ++ T) ⟨rfl, rfl, rfl⟩ ?_ ?_
          · rintro i z s1 h1 ez _
            cases ez
          · rintro s1 h1 ⟨_, rfl, rfl⟩
            exact ⟨.inl rfl, ds, T, _, _, _, _, D, rfl, rfl⟩
      · rintro s1 h1 ⟨ds, T, o5, o6, o7, o8, D, rfl, rfl⟩
        show wp
        show wr (ne_webs _ w.nd)
        exact ⟨.inl rfl, ds, T, _, _, _, _, _, _, _, D, rfl, rfl⟩
    refine br_by (fun k => ?_) (fun k => ?_)
    · obtain ⟨W, ds4, w, nW, lW, D4, eF⟩ := flat_at ([.tab 0, .lst (ds3.map .int)] ++ T) 1 ds3 rfl D3 24 (by omega) (by omega)
      show wp
      show wr eF
      exact main W ds4 w nW (by omega) D4
    · show wp
      exact main V ds3 v nV (by omega) D3
  rintro s1 h1 ⟨ds, T, o2, o3, o4, o5, o6, o7, o8, D, rfl, rfl⟩
  show wp
  rfl


end
end Ew
end

section
set_option Elab.async false
set_option linter.all false
set_option maxRecDepth 100000
set_option maxHeartbeats 4000000
/-! the bridge of law_k27_rings_or_not -/
namespace Ew
open PySem PySem.Spec PyProof.Rows L2
def topS (i : Nat) : Stmt := PySem.Challenge.pw_evenwalls_k27_rings_or_not.main.body.getD i (.Pass ⟨0, 0, 0, 0⟩)
abbrev s_is_number : Stmt := topS 1
theorem sc_is_number : FnScope ["thing"] ["thing"] (defScope s_is_number) := ⟨rfl, rfl, rfl, by decide +kernel, rfl, by decide +kernel, by decide +kernel⟩
abbrev s__law_mixed : Stmt := topS 6
theorem sc__law_mixed : FnScope ["_law_cell", "_law_k", "_law_number"] ["_law_cell", "_law_k"] (defScope s__law_mixed) := ⟨rfl, rfl, rfl, by decide +kernel, rfl, by decide +kernel, by decide +kernel⟩
abbrev s__law_next : Stmt := topS 8
theorem sc__law_next : FnScope ["_law_drawn"] ["_law_drawn"] (defScope s__law_next) := ⟨rfl, rfl, rfl, by decide +kernel, rfl, by decide +kernel, by decide +kernel⟩
abbrev s__law_behind : Stmt := topS 10
theorem sc__law_behind : FnScope ["_law_rows", "_law_u", "_law_v", "_law_row"] ["_law_rows", "_law_u", "_law_v"] (defScope s__law_behind) := ⟨rfl, rfl, rfl, by decide +kernel, rfl, by decide +kernel, by decide +kernel⟩
abbrev s__law_put_behind : Stmt := topS 11
theorem sc__law_put_behind : FnScope ["_law_row", "_law_a", "_law_v", "_law_at"] ["_law_row", "_law_a", "_law_v"] (defScope s__law_put_behind) := ⟨rfl, rfl, rfl, by decide +kernel, rfl, by decide +kernel, by decide +kernel⟩
abbrev s__law_twin : Stmt := topS 17
theorem sc__law_twin : FnScope ["_law_web_here", "_law_another", "_law_p"] ["_law_web_here"] (defScope s__law_twin) := ⟨rfl, rfl, rfl, by decide +kernel, rfl, by decide +kernel, by decide +kernel⟩
abbrev s__law_is_point : Stmt := topS 18
theorem sc__law_is_point : FnScope ["_law_thing"] ["_law_thing"] (defScope s__law_is_point) := ⟨rfl, rfl, rfl, by decide +kernel, rfl, by decide +kernel, by decide +kernel⟩
abbrev s__law_says : Stmt := topS 19
theorem sc__law_says : FnScope ["_law_found", "_law_due_here"] ["_law_found", "_law_due_here"] (defScope s__law_says) := ⟨rfl, rfl, rfl, by decide +kernel, rfl, by decide +kernel, by decide +kernel⟩
abbrev s_is_ring : Stmt := topS 4
theorem sc_is_ring : FnScope ["web", "row", "seen", "p", "at"] ["web", "row"] (defScope s_is_ring) := ⟨rfl, rfl, rfl, by decide +kernel, rfl, by decide +kernel, by decide +kernel⟩
abbrev s__law_draws : Stmt := topS 7
theorem sc__law_draws : FnScope ["_law_script", "_law_drawn", "_law_k", "_law_cell", "_law_j"] ["_law_script"] (defScope s__law_draws) := ⟨rfl, rfl, rfl, by decide +kernel, rfl, by decide +kernel, by decide +kernel⟩
abbrev s__law_names : Stmt := topS 9
theorem sc__law_names : FnScope ["_law_drawn", "_law_many", "_law_number", "_law_step", "_law_k"] ["_law_drawn", "_law_many"] (defScope s__law_names) := ⟨rfl, rfl, rfl, by decide +kernel, rfl, by decide +kernel, by decide +kernel⟩
abbrev s__law_stand_in : Stmt := topS 12
theorem sc__law_stand_in : FnScope ["_law_rows", "_law_p", "_law_x", "_law_y", "_law_z"] ["_law_rows", "_law_p", "_law_x", "_law_y", "_law_z"] (defScope s__law_stand_in) := ⟨rfl, rfl, rfl, by decide +kernel, rfl, by decide +kernel, by decide +kernel⟩
abbrev s__law_thinned : Stmt := topS 14
theorem sc__law_thinned : FnScope ["_law_drawn", "_law_rows", "_law_share", "_law_number", "_law_kept", "_law_u", "_law_v"] ["_law_drawn", "_law_rows", "_law_share"] (defScope s__law_thinned) := ⟨rfl, rfl, rfl, by decide +kernel, rfl, by decide +kernel, by decide +kernel⟩
abbrev s__law_begun : Stmt := topS 15
theorem sc__law_begun : FnScope ["_law_drawn", "_law_rows", "_law_number", "_law_web_here", "_law_points", "_law_turn", "_law_u", "_law_at"] ["_law_drawn", "_law_rows"] (defScope s__law_begun) := ⟨rfl, rfl, rfl, by decide +kernel, rfl, by decide +kernel, by decide +kernel⟩
abbrev s__law_walk : Stmt := topS 21
theorem sc__law_walk : FnScope ["_law_web_here", "_law_drawn", "_law_points", "_law_walk_here", "_law_most", "_law_fresh", "_law_q", "_law_closed", "_law_k"] ["_law_web_here", "_law_drawn"] (defScope s__law_walk) := ⟨rfl, rfl, rfl, by decide +kernel, rfl, by decide +kernel, by decide +kernel⟩
abbrev s__law_bent : Stmt := topS 22
theorem sc__law_bent : FnScope ["_law_walk_here", "_law_web_here", "_law_drawn", "_law_number", "_law_kind", "_law_at", "_law_other", "_law_some"] ["_law_walk_here", "_law_web_here", "_law_drawn"] (defScope s__law_bent) := ⟨rfl, rfl, rfl, by decide +kernel, rfl, by decide +kernel, by decide +kernel⟩
abbrev s__law_due : Stmt := topS 23
theorem sc__law_due : FnScope ["_law_web_here", "_law_row", "_law_p", "_law_j"] ["_law_web_here", "_law_row"] (defScope s__law_due) := ⟨rfl, rfl, rfl, by decide +kernel, rfl, by decide +kernel, by decide +kernel⟩
abbrev s__law_full : Stmt := topS 13
theorem sc__law_full : FnScope ["_law_drawn", "_law_names_here", "_law_a", "_law_b", "_law_c", "_law_rows", "_law_steps", "_law_p", "_law_x", "_law_y", "_law_z"] ["_law_drawn", "_law_names_here"] (defScope s__law_full) := ⟨rfl, rfl, rfl, by decide +kernel, rfl, by decide +kernel, by decide +kernel⟩
abbrev s__law_small : Stmt := topS 24
theorem sc__law_small : FnScope ["_law_web_here", "_law_thing", "_law_own", "_law_row", "_law_bent_here"] ["_law_web_here"] (defScope s__law_small) := ⟨rfl, rfl, rfl, by decide +kernel, rfl, by decide +kernel, by decide +kernel⟩
abbrev s__law_flat : Stmt := topS 16
theorem sc__law_flat : FnScope ["_law_drawn", "_law_most", "_law_number", "_law_names_here", "_law_cut", "_law_rows", "_law_part", "_law_p", "_law_full_here"] ["_law_drawn", "_law_most"] (defScope s__law_flat) := ⟨rfl, rfl, rfl, by decide +kernel, rfl, by decide +kernel, by decide +kernel⟩
abbrev s__law_web : Stmt := topS 20
theorem sc__law_web : FnScope ["_law_drawn", "_law_most", "_law_number", "_law_names_here", "_law_share", "_law_web_here", "_law_u", "_law_others", "_law_v"] ["_law_drawn", "_law_most"] (defScope s__law_web) := ⟨rfl, rfl, rfl, by decide +kernel, rfl, by decide +kernel, by decide +kernel⟩
abbrev s_law : Stmt := topS 25
theorem sc_law : FnScope ["_law_script", "_law_drawn", "_law_k", "_law_web_here", "_law_twin_here", "_law_j", "_law_rows", "_law_walk_here", "_law_row"] ["_law_script"] (defScope s_law) := ⟨rfl, rfl, rfl, by decide +kernel, rfl, by decide +kernel, by decide +kernel⟩
section
variable [Tabs] {P : Program} {w : World} {K : PySem.W.Frag} {mg : Str → Option Value} {base : Heap}
theorem ok_is_number {f : Addr} {fd : FuncData} (F : L2.Fun K "is_number" "is_number" s_is_number f fd) (hg : mg "is_number" = some (.ref f)) (m_isinstance : mg "isinstance" = none) (m_bool : mg "bool" = none) (m_int : mg "int" = none) : Cal P w K mg base "is_number" 1 (spM K 1 g_is_number) 1 :=
  def_ok (b := b_is_number) F hg sc_is_number (fun _ _ _ _ _ _ us hl => match us, hl with | [_], _ => rfl) fun cdv A outer s H E hr =>
    (ms_one (ms_ret (me_and (me_isi (tn := "int") m_isinstance (me_var (i := 0)) m_int (by decide +kernel) (by decide +kernel)) (me_one (me_not (me_isi (tn := "bool") m_isinstance (me_var (i := 0)) m_bool (by decide +kernel) (by decide +kernel)))))))
theorem ok__law_mixed {f : Addr} {fd : FuncData} (F : L2.Fun K "_law_mixed" "_law_mixed" s__law_mixed f fd) (hg : mg "_law_mixed" = some (.ref f))  : Cal P w K mg base "_law_mixed" 2 (spM K 2 g__law_mixed) 1 :=
  def_ok (b := b__law_mixed) F hg sc__law_mixed (fun _ _ _ _ _ _ us hl => match us, hl with | [_, _], _ => rfl) fun cdv A outer s H E hr =>
    (ms_cons (ms_asg (me_mod (me_add (me_add (me_mul (me_mod (me_var (i := 0)) me_int) me_int) (me_mul (me_mul me_int (me_var (i := 1))) (me_var (i := 1)))) me_int) me_int) (mg_nm (n := 2) sc__law_mixed.nd))
    (ms_one (ms_ret (me_mod (me_mul (me_var (i := 2)) (me_var (i := 2))) me_int))))
theorem ok__law_next {f : Addr} {fd : FuncData} (F : L2.Fun K "_law_next" "_law_next" s__law_next f fd) (hg : mg "_law_next" = some (.ref f))  : Cal P w K mg base "_law_next" 1 (spM K 1 g__law_next) 1 :=
  def_ok (b := b__law_next) F hg sc__law_next (fun _ _ _ _ _ _ us hl => match us, hl with | [_], _ => rfl) fun cdv A outer s H E hr =>
    (ms_cons (ms_if (c_eqA hr (me_var (i := 0)) (MF.me (mf_lst ma_nil))).2 (ms_one (ms_ret me_int)) ms_nil)
    (ms_one (ms_ret (me_popAt (me_var (i := 0)) me_int))))
theorem ok__law_behind {f : Addr} {fd : FuncData} (F : L2.Fun K "_law_behind" "_law_behind" s__law_behind f fd) (hg : mg "_law_behind" = some (.ref f)) (m_len : mg "len" = none) : Cal P w K mg base "_law_behind" 3 (spM K 3 g__law_behind) 1 :=
  def_ok (b := b__law_behind) F hg sc__law_behind (fun _ _ _ _ _ _ us hl => match us, hl with | [_, _, _], _ => rfl) fun cdv A outer s H E hr =>
    (ms_cons (ms_asg (me_ix hr (me_var (i := 0)) (me_var (i := 2))) (mg_nm (n := 3) sc__law_behind.nd))
    (ms_one (ms_ret (me_tup (ma_cons (me_var (i := 2)) (ma_cons (me_ix hr (me_var (i := 3)) (me_mod (me_add (me_indexL (me_var (i := 3)) (me_var (i := 1))) me_int) (me_len m_len (ma_cons (me_var (i := 3)) ma_nil)))) ma_nil))))))
theorem ok__law_put_behind {f : Addr} {fd : FuncData} (F : L2.Fun K "_law_put_behind" "_law_put_behind" s__law_put_behind f fd) (hg : mg "_law_put_behind" = some (.ref f))  : Cal P w K mg base "_law_put_behind" 3 (spM K 3 g__law_put_behind) 1 :=
  def_ok (b := b__law_put_behind) F hg sc__law_put_behind (fun _ _ _ _ _ _ us hl => match us, hl with | [_, _, _], _ => rfl) fun cdv A outer s H E hr =>
    (ms_cons (ms_asg (me_add (me_indexL (me_var (i := 0)) (me_var (i := 1))) me_int) (mg_nm (n := 3) sc__law_put_behind.nd))
    (ms_one (ms_ret (MF.me (mf_cat (MF.me (mf_cat (MF.me (mf_slL (me_var (i := 0)) mo_none (mo_some (me_var (i := 3))))) (MF.me (mf_lst (ma_cons (me_var (i := 2)) ma_nil))))) (MF.me (mf_slL (me_var (i := 0)) (mo_some (me_var (i := 3))) mo_none)))))))
theorem ok__law_twin {f : Addr} {fd : FuncData} (F : L2.Fun K "_law_twin" "_law_twin" s__law_twin f fd) (hg : mg "_law_twin" = some (.ref f))  : Cal P w K mg base "_law_twin" 1 (spM K 1 g__law_twin) 1 :=
  def_ok (b := b__law_twin) F hg sc__law_twin (fun _ _ _ _ _ _ us hl => match us, hl with | [_], _ => rfl) fun cdv A outer s H E hr =>
    (ms_cons (ms_asg (me_box mf_dnewK) (mg_nm (n := 1) sc__law_twin.nd))
    (ms_cons (ms_forK (n := 0) (x := B1__law_twin) rfl (mg_nm (n := 2) sc__law_twin.nd) (ms_one (ms_put hr (me_var (i := 1)) (me_var (i := 2)) (me_ix hr (me_var (i := 0)) (me_var (i := 2))))))
    (ms_one (ms_ret (me_var (i := 1))))))
theorem ok__law_is_point {f : Addr} {fd : FuncData} (F : L2.Fun K "_law_is_point" "_law_is_point" s__law_is_point f fd) (hg : mg "_law_is_point" = some (.ref f)) (m_isinstance : mg "isinstance" = none) (m_bool : mg "bool" = none) (m_int : mg "int" = none) : Cal P w K mg base "_law_is_point" 1 (spM K 1 g__law_is_point) 1 :=
  def_ok (b := b__law_is_point) F hg sc__law_is_point (fun _ _ _ _ _ _ us hl => match us, hl with | [_], _ => rfl) fun cdv A outer s H E hr =>
    (ms_one (ms_ret (me_and (me_isi (tn := "int") m_isinstance (me_var (i := 0)) m_int (by decide +kernel) (by decide +kernel)) (me_and (me_not (me_isi (tn := "bool") m_isinstance (me_var (i := 0)) m_bool (by decide +kernel) (by decide +kernel))) (me_one (c_lele me_int (me_var (i := 0)) me_int).1)))))
theorem ok__law_says {f : Addr} {fd : FuncData} (F : L2.Fun K "_law_says" "_law_says" s__law_says f fd) (hg : mg "_law_says" = some (.ref f))  : Cal P w K mg base "_law_says" 2 (spM K 2 g__law_says) 1 :=
  def_ok (b := b__law_says) F hg sc__law_says (fun _ _ _ _ _ _ us hl => match us, hl with | [_, _], _ => rfl) fun cdv A outer s H E hr =>
    (ms_cons (ms_if (mt_val (me_var (i := 1))) (ms_one (ms_ret (c_isB (me_var (i := 0)) me_bl).1)) ms_nil)
    (ms_one (ms_ret (c_isB (me_var (i := 0)) me_bl).1)))
theorem ok_is_ring {f : Addr} {fd : FuncData} (F : L2.Fun K "is_ring" "is_ring" s_is_ring f fd) (hg : mg "is_ring" = some (.ref f)) (C_is_number : Cal P w K mg base "is_number" 1 (spM K 1 g_is_number) 1) (m_len : mg "len" = none) (m_isinstance : mg "isinstance" = none) (m_tuple : mg "tuple" = none) (m_all : mg "all" = none) (m_range : mg "range" = none) (g_SHORTEST : ∃ t, mg "SHORTEST" = some (.int 3 t)) : Cal P w K mg base "is_ring" 2 (spM K 2 g_is_ring) 2 :=
  def_ok (b := b_is_ring) F hg sc_is_ring (fun _ _ _ _ _ _ us hl => match us, hl with | [_, _], _ => rfl) fun cdv A outer s H E hr =>
    (ms_cons (ms_if (PW.pt (mw_or (mt_not (mt_val (me_isi (tn := "tuple") m_isinstance (me_var (i := 1)) m_tuple (by decide +kernel) (by decide +kernel)))) (mw_or1 (c_lt (me_len m_len (ma_cons (me_var (i := 1)) ma_nil)) (me_globI g_SHORTEST)).2))) (ms_one (ms_ret me_bl)) ms_nil)
    (ms_cons (ms_asg (me_box mf_dnewK) (mg_nm (n := 2) sc_is_ring.nd))
    (ms_cons (ms_for (x := B1_is_ring) (mi_seq (me_var (i := 1))) (mg_nm (n := 3) sc_is_ring.nd) (ms_cons (ms_if (PW.pt (mw_or (mt_not (mt_val (me_call C_is_number hr (ma_cons (me_var (i := 3)) ma_nil)))) (mw_or (c_notin hr (me_var (i := 3)) (me_var (i := 0))).2 (mw_or1 (c_in hr (me_var (i := 3)) (me_var (i := 2))).2)))) (ms_one (ms_ret me_bl)) ms_nil)
    (ms_one (ms_put hr (me_var (i := 2)) (me_var (i := 3)) me_bl))))
    (ms_one (ms_ret (me_all m_all (ma_cons (MF.me (mf_lc sc_is_ring.nd (own := [("at", 4)]) (mi_range1 m_range (me_len m_len (ma_cons (me_var (i := 1)) ma_nil))) (show blkC ["web", "row", "seen", "p", "at"] (defScope s_is_ring) _ _ = true from by decide +kernel) (tgok_nm (by decide)) (fun _ _ _ _ _ => (pg_name (i := 4) sc_is_ring.nd rfl (Or.inl rfl))) (fun _ _ _ _ _ => mts_nil) (fun _ _ _ _ _ => (c_in hr (me_ix hr (me_var (i := 1)) (me_sub (me_var (i := 4)) me_int)) (me_ix hr (me_var (i := 0)) (me_ix hr (me_var (i := 1)) (me_var (i := 4))))).1))) ma_nil)))))))
theorem ok__law_draws {f : Addr} {fd : FuncData} (F : L2.Fun K "_law_draws" "_law_draws" s__law_draws f fd) (hg : mg "_law_draws" = some (.ref f)) (C__law_mixed : Cal P w K mg base "_law_mixed" 2 (spM K 2 g__law_mixed) 1) (m_range : mg "range" = none) (m_min : mg "min" = none) (m_len : mg "len" = none) (m_abs : mg "abs" = none) : Cal P w K mg base "_law_draws" 1 (spM K 1 g__law_draws) 2 :=
  def_ok (b := b__law_draws) F hg sc__law_draws (fun _ _ _ _ _ _ us hl => match us, hl with | [_], _ => rfl) fun cdv A outer s H E hr =>
    (ms_cons (ms_asg (me_box (mf_lst ma_nil)) (mg_nm (n := 1) sc__law_draws.nd))
    (ms_cons (ms_for (x := B1__law_draws) (mi_range1 m_range (me_min2 m_min (ma_cons (me_len m_len (ma_cons (me_var (i := 0)) ma_nil)) (ma_cons me_int ma_nil)))) (mg_nm (n := 2) sc__law_draws.nd) (ms_cons (ms_asg (me_abs m_abs (ma_cons (me_ix hr (me_var (i := 0)) (me_var (i := 2))) ma_nil)) (mg_nm (n := 3) sc__law_draws.nd))
    (ms_cons (ms_if (c_lt (me_var (i := 3)) (me_pow me_int me_int)).2 (ms_one (ms_for (x := B2__law_draws) (mi_range1 m_range me_int) (mg_nm (n := 4) sc__law_draws.nd) (ms_one (ms_expr (me_append (me_var (i := 1)) (me_call C__law_mixed hr (ma_cons (me_call C__law_mixed hr (ma_cons (me_var (i := 3)) (ma_cons (me_add (me_mul me_int (me_var (i := 4))) me_int) ma_nil))) (ma_cons (me_add (me_add (me_var (i := 4)) (me_var (i := 2))) me_int) ma_nil)))))))) ms_nil)
    (ms_cons (ms_while (ta := W3__law_draws) (x := B3__law_draws) (PW.pt (mw_and (c_ge (me_var (i := 3)) (me_pow me_int me_int)).2 (mw_and1 (c_lt (me_len m_len (ma_cons (me_var (i := 1)) ma_nil)) me_int).2))) (ms_cons (ms_expr (me_append (me_var (i := 1)) (me_mod (me_var (i := 3)) me_int)))
    (ms_one (ms_asg (me_div (me_var (i := 3)) me_int) (mg_nm (n := 3) sc__law_draws.nd)))))
    (ms_one (ms_if (c_ge (me_var (i := 3)) me_int).2 (ms_one (ms_expr (me_append (me_var (i := 1)) (me_mod (me_var (i := 3)) me_int)))) ms_nil))))))
    (ms_one (ms_ret (me_var (i := 1))))))
theorem ok__law_names {f : Addr} {fd : FuncData} (F : L2.Fun K "_law_names" "_law_names" s__law_names f fd) (hg : mg "_law_names" = some (.ref f)) (C__law_next : Cal P w K mg base "_law_next" 1 (spM K 1 g__law_next) 1) (m_range : mg "range" = none) : Cal P w K mg base "_law_names" 2 (spM K 2 g__law_names) 2 :=
  def_ok (b := b__law_names) F hg sc__law_names (fun _ _ _ _ _ _ us hl => match us, hl with | [_, _], _ => rfl) fun cdv A outer s H E hr =>
    (ms_cons (ms_asg (me_call C__law_next hr (ma_cons (me_var (i := 0)) ma_nil)) (mg_nm (n := 2) sc__law_names.nd))
    (ms_cons (ms_asg (me_ix hr (MF.me (mf_lst (ma_cons me_int (ma_cons me_int (ma_cons me_int (ma_cons me_int (ma_cons me_int (ma_cons me_int (ma_cons me_int (ma_cons me_int (ma_cons me_int (ma_cons me_int ma_nil)))))))))))) (me_mod (me_div (me_var (i := 2)) me_int) me_int)) (mg_nm (n := 3) sc__law_names.nd))
    (ms_one (ms_ret (MF.me (mf_lc sc__law_names.nd (own := [("_law_k", 4)]) (mi_range1 m_range (me_var (i := 1))) (show blkC ["_law_drawn", "_law_many", "_law_number", "_law_step", "_law_k"] (defScope s__law_names) _ _ = true from by decide +kernel) (tgok_nm (by decide)) (fun _ _ _ _ _ => (pg_name (i := 4) sc__law_names.nd rfl (Or.inl rfl))) (fun _ _ _ _ _ => mts_nil) (fun _ _ _ _ _ => (me_mod (me_add (me_mod (me_var (i := 2)) me_int) (me_mul (me_var (i := 4)) (me_var (i := 3)))) me_int))))))))
theorem ok__law_stand_in {f : Addr} {fd : FuncData} (F : L2.Fun K "_law_stand_in" "_law_stand_in" s__law_stand_in f fd) (hg : mg "_law_stand_in" = some (.ref f)) (C__law_put_behind : Cal P w K mg base "_law_put_behind" 3 (spM K 3 g__law_put_behind) 1) : Cal P w K mg base "_law_stand_in" 5 (spM K 5 g__law_stand_in) 2 :=
  def_ok (b := b__law_stand_in) F hg sc__law_stand_in (fun _ _ _ _ _ _ us hl => match us, hl with | [_, _, _, _, _], _ => rfl) fun cdv A outer s H E hr =>
    (ms_cons (ms_put hr (me_var (i := 0)) (me_var (i := 3)) (me_call C__law_put_behind hr (ma_cons (me_ix hr (me_var (i := 0)) (me_var (i := 3))) (ma_cons (me_var (i := 2)) (ma_cons (me_var (i := 1)) ma_nil)))))
    (ms_cons (ms_put hr (me_var (i := 0)) (me_var (i := 4)) (me_call C__law_put_behind hr (ma_cons (me_ix hr (me_var (i := 0)) (me_var (i := 4))) (ma_cons (me_var (i := 3)) (ma_cons (me_var (i := 1)) ma_nil)))))
    (ms_cons (ms_put hr (me_var (i := 0)) (me_var (i := 2)) (me_call C__law_put_behind hr (ma_cons (me_ix hr (me_var (i := 0)) (me_var (i := 2))) (ma_cons (me_var (i := 4)) (ma_cons (me_var (i := 1)) ma_nil)))))
    (ms_one (ms_put hr (me_var (i := 0)) (me_var (i := 1)) (MF.me (mf_lst (ma_cons (me_var (i := 3)) (ma_cons (me_var (i := 2)) (ma_cons (me_var (i := 4)) ma_nil))))))))))
theorem ok__law_thinned {f : Addr} {fd : FuncData} (F : L2.Fun K "_law_thinned" "_law_thinned" s__law_thinned f fd) (hg : mg "_law_thinned" = some (.ref f)) (C__law_next : Cal P w K mg base "_law_next" 1 (spM K 1 g__law_next) 1) (C__law_mixed : Cal P w K mg base "_law_mixed" 2 (spM K 2 g__law_mixed) 1) (m_max : mg "max" = none) (m_min : mg "min" = none) : Cal P w K mg base "_law_thinned" 3 (spM K 3 g__law_thinned) 2 :=
  def_ok (b := b__law_thinned) F hg sc__law_thinned (fun _ _ _ _ _ _ us hl => match us, hl with | [_, _, _], _ => rfl) fun cdv A outer s H E hr =>
    (ms_cons (ms_asg (me_call C__law_next hr (ma_cons (me_var (i := 0)) ma_nil)) (mg_nm (n := 3) sc__law_thinned.nd))
    (ms_cons (ms_asg (me_box mf_dnewK) (mg_nm (n := 4) sc__law_thinned.nd))
    (ms_cons (ms_forK (n := 1) (x := B1__law_thinned) rfl (mg_nm (n := 5) sc__law_thinned.nd) (ms_one (ms_put hr (me_var (i := 4)) (me_var (i := 5)) (MF.me (mf_lc sc__law_thinned.nd (own := [("_law_v", 6)]) (mi_seq (me_ix hr (me_var (i := 1)) (me_var (i := 5)))) (show blkC ["_law_drawn", "_law_rows", "_law_share", "_law_number", "_law_kept", "_law_u", "_law_v"] (defScope s__law_thinned) _ _ = true from by decide +kernel) (tgok_nm (by decide)) (fun _ _ _ _ _ => (pg_name (i := 6) sc__law_thinned.nd rfl (Or.inl rfl))) (fun _ _ _ _ _ => (mts_one (c_ge (me_mod (me_call C__law_mixed hr (ma_cons (me_add (me_var (i := 3)) (me_min2 m_min (ma_cons (me_var (i := 5)) (ma_cons (me_var (i := 6)) ma_nil)))) (ma_cons (me_max2 m_max (ma_cons (me_var (i := 5)) (ma_cons (me_var (i := 6)) ma_nil))) ma_nil))) me_int) (me_var (i := 2))).2)) (fun _ _ _ _ _ => (me_var (i := 6))))))))
    (ms_one (ms_ret (me_var (i := 4)))))))
theorem ok__law_begun {f : Addr} {fd : FuncData} (F : L2.Fun K "_law_begun" "_law_begun" s__law_begun f fd) (hg : mg "_law_begun" = some (.ref f)) (C__law_next : Cal P w K mg base "_law_next" 1 (spM K 1 g__law_next) 1) (C__law_mixed : Cal P w K mg base "_law_mixed" 2 (spM K 2 g__law_mixed) 1) (m_list : mg "list" = none) (m_max : mg "max" = none) (m_len : mg "len" = none) (m_tuple : mg "tuple" = none) : Cal P w K mg base "_law_begun" 2 (spM K 2 g__law_begun) 2 :=
  def_ok (b := b__law_begun) F hg sc__law_begun (fun _ _ _ _ _ _ us hl => match us, hl with | [_, _], _ => rfl) fun cdv A outer s H E hr =>
    (ms_cons (ms_asg (me_call C__law_next hr (ma_cons (me_var (i := 0)) ma_nil)) (mg_nm (n := 2) sc__law_begun.nd))
    (ms_cons (ms_asg (me_box mf_dnewK) (mg_nm (n := 3) sc__law_begun.nd))
    (ms_cons (ms_asg (MF.me (mf_listKeys m_list (me_var (i := 1)))) (mg_nm (n := 4) sc__law_begun.nd))
    (ms_cons (ms_asg (me_mod (me_var (i := 2)) (me_max2 m_max (ma_cons me_int (ma_cons (me_len m_len (ma_cons (me_var (i := 4)) ma_nil)) ma_nil)))) (mg_nm (n := 5) sc__law_begun.nd))
    (ms_cons (ms_for (x := B1__law_begun) (mi_seq (MF.me (mf_cat (MF.me (mf_slL (me_var (i := 4)) (mo_some (me_var (i := 5))) mo_none)) (MF.me (mf_slL (me_var (i := 4)) mo_none (mo_some (me_var (i := 5)))))))) (mg_nm (n := 6) sc__law_begun.nd) (ms_cons (ms_asg (me_mod (me_call C__law_mixed hr (ma_cons (me_var (i := 2)) (ma_cons (me_add (me_var (i := 6)) me_int) ma_nil))) (me_max2 m_max (ma_cons me_int (ma_cons (me_len m_len (ma_cons (me_ix hr (me_var (i := 1)) (me_var (i := 6))) ma_nil)) ma_nil)))) (mg_nm (n := 7) sc__law_begun.nd))
    (ms_one (ms_put hr (me_var (i := 3)) (me_var (i := 6)) (me_tuple m_tuple (ma_cons (MF.me (mf_cat (MF.me (mf_slL (me_ix hr (me_var (i := 1)) (me_var (i := 6))) (mo_some (me_var (i := 7))) mo_none)) (MF.me (mf_slL (me_ix hr (me_var (i := 1)) (me_var (i := 6))) mo_none (mo_some (me_var (i := 7))))))) ma_nil))))))
    (ms_one (ms_ret (me_var (i := 3)))))))))
theorem ok__law_walk {f : Addr} {fd : FuncData} (F : L2.Fun K "_law_walk" "_law_walk" s__law_walk f fd) (hg : mg "_law_walk" = some (.ref f)) (C__law_next : Cal P w K mg base "_law_next" 1 (spM K 1 g__law_next) 1) (m_sorted : mg "sorted" = none) (m_len : mg "len" = none) (m_list : mg "list" = none) (m_range : mg "range" = none) : Cal P w K mg base "_law_walk" 2 (spM K 2 g__law_walk) 2 :=
  def_ok (b := b__law_walk) F hg sc__law_walk (fun _ _ _ _ _ _ us hl => match us, hl with | [_, _], _ => rfl) fun cdv A outer s H E hr =>
    (ms_cons (ms_asg (MF.me (mf_sortKeys m_sorted (me_var (i := 0)))) (mg_nm (n := 2) sc__law_walk.nd))
    (ms_cons (ms_asg (me_box (mf_lst (ma_cons (me_ix hr (me_var (i := 2)) (me_mod (me_call C__law_next hr (ma_cons (me_var (i := 1)) ma_nil)) (me_len m_len (ma_cons (me_var (i := 2)) ma_nil)))) ma_nil))) (mg_nm (n := 3) sc__law_walk.nd))
    (ms_cons (ms_asg (me_add me_int (me_mod (me_call C__law_next hr (ma_cons (me_var (i := 1)) ma_nil)) me_int)) (mg_nm (n := 4) sc__law_walk.nd))
    (ms_cons (ms_asg (MF.me (mf_list m_list (ma_cons (me_ix hr (me_var (i := 0)) (me_ix hr (me_var (i := 3)) me_int)) ma_nil))) (mg_nm (n := 5) sc__law_walk.nd))
    (ms_cons (ms_while (ta := W1__law_walk) (x := B1__law_walk) (PW.pt (mw_and (c_neA hr (me_var (i := 5)) (MF.me (mf_lst ma_nil))).2 (mw_and1 (c_lt (me_len m_len (ma_cons (me_var (i := 3)) ma_nil)) (me_var (i := 4))).2))) (ms_cons (ms_expr (me_append (me_var (i := 3)) (me_ix hr (me_var (i := 5)) (me_mod (me_call C__law_next hr (ma_cons (me_var (i := 1)) ma_nil)) (me_len m_len (ma_cons (me_var (i := 5)) ma_nil))))))
    (ms_one (ms_setLc (n := 5) tF_val sc__law_walk.nd (own := [("_law_q", 6)]) (mi_seq (me_ix hr (me_var (i := 0)) (me_ix hr (me_var (i := 3)) (me_neg me_int)))) (show blkC ["_law_web_here", "_law_drawn", "_law_points", "_law_walk_here", "_law_most", "_law_fresh", "_law_q", "_law_closed", "_law_k"] (defScope s__law_walk) _ _ = true from by decide +kernel) (tgok_nm (by decide)) (fun _ _ _ _ _ => (pg_name (i := 6) sc__law_walk.nd rfl (Or.inl rfl))) (fun _ _ _ _ _ => (mts_one (c_notin hr (me_var (i := 6)) (me_var (i := 3))).2)) (fun _ _ _ _ _ => (me_var (i := 6))) (sw_true rfl rfl rfl (by decide +kernel))))))
    (ms_cons (ms_setLc (n := 7) tF_val sc__law_walk.nd (own := [("_law_k", 8)]) (mi_range2 m_range me_int (me_add (me_len m_len (ma_cons (me_var (i := 3)) ma_nil)) me_int)) (show blkC ["_law_web_here", "_law_drawn", "_law_points", "_law_walk_here", "_law_most", "_law_fresh", "_law_q", "_law_closed", "_law_k"] (defScope s__law_walk) _ _ = true from by decide +kernel) (tgok_nm (by decide)) (fun _ _ _ _ _ => (pg_name (i := 8) sc__law_walk.nd rfl (Or.inl rfl))) (fun _ _ _ _ _ => (mts_one (c_in hr (me_ix hr (me_var (i := 3)) me_int) (me_ix hr (me_var (i := 0)) (me_ix hr (me_var (i := 3)) (me_sub (me_var (i := 8)) me_int)))).2)) (fun _ _ _ _ _ => (me_var (i := 8))) (sw_true rfl rfl rfl (by decide +kernel)))
    (ms_cons (ms_if (PW.pt (mw_and (c_neA hr (me_var (i := 7)) (MF.me (mf_lst ma_nil))).2 (mw_and1 (c_gt (me_mod (me_call C__law_next hr (ma_cons (me_var (i := 1)) ma_nil)) me_int) me_int).2))) (ms_one (ms_asg (me_box (mf_slL (me_var (i := 3)) mo_none (mo_some (me_ix hr (me_var (i := 7)) (me_neg me_int))))) (mg_nm (n := 3) sc__law_walk.nd))) ms_nil)
    (ms_one (ms_ret (me_var (i := 3)))))))))))
theorem ok__law_bent {f : Addr} {fd : FuncData} (F : L2.Fun K "_law_bent" "_law_bent" s__law_bent f fd) (hg : mg "_law_bent" = some (.ref f)) (C__law_next : Cal P w K mg base "_law_next" 1 (spM K 1 g__law_next) 1) (m_len : mg "len" = none) (m_sorted : mg "sorted" = none) (m_str : mg "str" = none) (m_tuple : mg "tuple" = none) (m_list : mg "list" = none) : Cal P w K mg base "_law_bent" 3 (spM K 3 g__law_bent) 2 :=
  def_ok (b := b__law_bent) F hg sc__law_bent (fun _ _ _ _ _ _ us hl => match us, hl with | [_, _, _], _ => rfl) fun cdv A outer s H E hr =>
    (ms_cons (ms_asg (me_call C__law_next hr (ma_cons (me_var (i := 2)) ma_nil)) (mg_nm (n := 3) sc__law_bent.nd))
    (ms_cons (ms_asg (me_mod (me_var (i := 3)) me_int) (mg_nm (n := 4) sc__law_bent.nd))
    (ms_cons (ms_asg (me_mod (me_div (me_var (i := 3)) me_int) (me_len m_len (ma_cons (me_var (i := 0)) ma_nil))) (mg_nm (n := 5) sc__law_bent.nd))
    (ms_cons (ms_asg (me_ix hr (MF.me (mf_sortKeys m_sorted (me_var (i := 1)))) (me_mod (me_div (me_var (i := 3)) me_int) (me_len m_len (ma_cons (me_var (i := 1)) ma_nil)))) (mg_nm (n := 6) sc__law_bent.nd))
    (ms_cons (ms_asg (MF.me (mf_lst (ma_cons me_bl (ma_cons me_non (ma_cons me_str (ma_cons (me_strI m_str (ma_cons (me_var (i := 6)) ma_nil)) (ma_cons (me_tup (ma_cons (me_var (i := 6)) ma_nil)) (ma_cons me_int (ma_cons (me_neg me_int) (ma_cons (MF.me (mf_lst (ma_cons (me_ix hr (me_var (i := 0)) (me_var (i := 5))) ma_nil))) (ma_cons (MF.me (mf_disp (mp_cons (me_ix hr (me_var (i := 0)) (me_var (i := 5))) (me_ix hr (me_var (i := 0)) (me_var (i := 5))) mp_nil))) (ma_cons (MF.me (mf_lst ma_nil)) (ma_cons (MF.me mf_dnewK) ma_nil))))))))))))) (mg_nm (n := 7) sc__law_bent.nd))
    (ms_cons (ms_if (c_eqA hr (me_var (i := 4)) me_int).2 (ms_one (ms_ret (me_tuple m_tuple (ma_cons (MF.me (mf_cat (MF.me (mf_cat (MF.me (mf_slL (me_var (i := 0)) mo_none (mo_some (me_var (i := 5))))) (MF.me (mf_lst (ma_cons (me_var (i := 6)) ma_nil))))) (MF.me (mf_slL (me_var (i := 0)) (mo_some (me_var (i := 5))) mo_none)))) ma_nil)))) ms_nil)
    (ms_cons (ms_if (c_eqA hr (me_var (i := 4)) me_int).2 (ms_one (ms_ret (me_tuple m_tuple (ma_cons (MF.me (mf_cat (MF.me (mf_slL (me_var (i := 0)) mo_none (mo_some (me_var (i := 5))))) (MF.me (mf_slL (me_var (i := 0)) (mo_some (me_add (me_var (i := 5)) me_int)) mo_none)))) ma_nil)))) ms_nil)
    (ms_cons (ms_if (c_eqA hr (me_var (i := 4)) me_int).2 (ms_one (ms_ret (me_tuple m_tuple (ma_cons (MF.me (mf_cat (MF.me (mf_cat (MF.me (mf_slL (me_var (i := 0)) mo_none (mo_some (me_var (i := 5))))) (MF.me (mf_lst (ma_cons (me_ix hr (me_var (i := 0)) (me_var (i := 5))) ma_nil))))) (MF.me (mf_slL (me_var (i := 0)) (mo_some (me_var (i := 5))) mo_none)))) ma_nil)))) ms_nil)
    (ms_cons (ms_if (c_eqA hr (me_var (i := 4)) me_int).2 (ms_one (ms_ret (me_tuple m_tuple (ma_cons (MF.me (mf_cat (MF.me (mf_cat (MF.me (mf_slL (me_var (i := 0)) mo_none (mo_some (me_var (i := 5))))) (MF.me (mf_lst (ma_cons (me_ix hr (me_var (i := 7)) (me_mod (me_div (me_var (i := 3)) me_int) me_int)) ma_nil))))) (MF.me (mf_slL (me_var (i := 0)) (mo_some (me_add (me_var (i := 5)) me_int)) mo_none)))) ma_nil)))) ms_nil)
    (ms_cons (ms_if (c_eqA hr (me_var (i := 4)) me_int).2 (ms_one (ms_ret (MF.me (mf_list m_list (ma_cons (me_var (i := 0)) ma_nil))))) ms_nil)
    (ms_cons (ms_if (c_eqA hr (me_var (i := 4)) me_int).2 (ms_one (ms_ret (me_tuple m_tuple (ma_cons (MF.me (mf_cat (me_var (i := 0)) (me_var (i := 0)))) ma_nil)))) ms_nil)
    (ms_one (ms_ret (me_tuple m_tuple (ma_cons (MF.me (mf_sorted m_sorted (ma_cons (me_var (i := 0)) ma_nil))) ma_nil)))))))))))))))
theorem ok__law_due {f : Addr} {fd : FuncData} (F : L2.Fun K "_law_due" "_law_due" s__law_due f fd) (hg : mg "_law_due" = some (.ref f)) (C__law_is_point : Cal P w K mg base "_law_is_point" 1 (spM K 1 g__law_is_point) 1) (m_len : mg "len" = none) (m_isinstance : mg "isinstance" = none) (m_tuple : mg "tuple" = none) (m_list : mg "list" = none) (m_range : mg "range" = none) : Cal P w K mg base "_law_due" 2 (spM K 2 g__law_due) 2 :=
  def_ok (b := b__law_due) F hg sc__law_due (fun _ _ _ _ _ _ us hl => match us, hl with | [_, _], _ => rfl) fun cdv A outer s H E hr =>
    (ms_cons (ms_if (PW.pt (mw_or (mt_not (mt_val (me_isi (tn := "tuple") m_isinstance (me_var (i := 1)) m_tuple (by decide +kernel) (by decide +kernel)))) (mw_or1 (c_lt (me_len m_len (ma_cons (me_var (i := 1)) ma_nil)) me_int).2))) (ms_one (ms_ret me_bl)) ms_nil)
    (ms_cons (ms_for (x := B1__law_due) (mi_seq (me_var (i := 1))) (mg_nm (n := 2) sc__law_due.nd) (ms_one (ms_if (PW.pt (mw_or (mt_not (mt_val (me_call C__law_is_point hr (ma_cons (me_var (i := 2)) ma_nil)))) (mw_or (c_notin hr (me_var (i := 2)) (me_var (i := 0))).2 (mw_or1 (c_gt (me_countV hr (MF.me (mf_list m_list (ma_cons (me_var (i := 1)) ma_nil))) (me_var (i := 2))) me_int).2)))) (ms_one (ms_ret me_bl)) ms_nil)))
    (ms_cons (ms_for (x := B2__law_due) (mi_range1 m_range (me_len m_len (ma_cons (me_var (i := 1)) ma_nil))) (mg_nm (n := 3) sc__law_due.nd) (ms_one (ms_if (c_notin hr (me_ix hr (me_var (i := 1)) (me_var (i := 3))) (me_ix hr (me_var (i := 0)) (me_ix hr (me_var (i := 1)) (me_mod (me_add (me_var (i := 3)) me_int) (me_len m_len (ma_cons (me_var (i := 1)) ma_nil)))))).2 (ms_one (ms_ret me_bl)) ms_nil)))
    (ms_one (ms_ret me_bl)))))
theorem ok__law_full {f : Addr} {fd : FuncData} (F : L2.Fun K "_law_full" "_law_full" s__law_full f fd) (hg : mg "_law_full" = some (.ref f)) (C__law_next : Cal P w K mg base "_law_next" 1 (spM K 1 g__law_next) 1) (C__law_behind : Cal P w K mg base "_law_behind" 3 (spM K 3 g__law_behind) 1) (C__law_stand_in : Cal P w K mg base "_law_stand_in" 5 (spM K 5 g__law_stand_in) 2) (m_len : mg "len" = none) : Cal P w K mg base "_law_full" 2 (spM K 2 g__law_full) 3 :=
  def_ok (b := b__law_full) F hg sc__law_full (fun _ _ _ _ _ _ us hl => match us, hl with | [_, _], _ => rfl) fun cdv A outer s H E hr =>
    (ms_cons (ms_asg (MF.me (mf_slL (me_var (i := 1)) mo_none (mo_some me_int))) (mg_unl (mgs_cons (mg_nm (n := 2) sc__law_full.nd) (mgs_cons (mg_nm (n := 3) sc__law_full.nd) (mgs_cons (mg_nm (n := 4) sc__law_full.nd) mgs_nil)))))
    (ms_cons (ms_asg (me_box (mf_disp (mp_cons (me_var (i := 2)) (MF.me (mf_lst (ma_cons (me_var (i := 3)) (ma_cons (me_var (i := 4)) ma_nil)))) (mp_cons (me_var (i := 3)) (MF.me (mf_lst (ma_cons (me_var (i := 4)) (ma_cons (me_var (i := 2)) ma_nil)))) (mp_cons (me_var (i := 4)) (MF.me (mf_lst (ma_cons (me_var (i := 2)) (ma_cons (me_var (i := 3)) ma_nil)))) mp_nil))))) (mg_nm (n := 5) sc__law_full.nd))
    (ms_cons (ms_asg (MF.me (mf_lst (ma_cons (me_tup (ma_cons (me_var (i := 2)) (ma_cons (me_var (i := 3)) ma_nil))) (ma_cons (me_tup (ma_cons (me_var (i := 3)) (ma_cons (me_var (i := 2)) ma_nil))) ma_nil)))) (mg_nm (n := 6) sc__law_full.nd))
    (ms_cons (ms_for (x := B1__law_full) (mi_seq (MF.me (mf_slL (me_var (i := 1)) (mo_some me_int) mo_none))) (mg_nm (n := 7) sc__law_full.nd) (ms_cons (ms_asg (me_ix hr (me_var (i := 6)) (me_mod (me_call C__law_next hr (ma_cons (me_var (i := 0)) ma_nil)) (me_len m_len (ma_cons (me_var (i := 6)) ma_nil)))) (mg_tup (mgs_cons (mg_nm (n := 8) sc__law_full.nd) (mgs_cons (mg_nm (n := 9) sc__law_full.nd) mgs_nil))))
    (ms_cons (ms_asg (me_ix hr (me_call C__law_behind hr (ma_cons (me_var (i := 5)) (ma_cons (me_var (i := 8)) (ma_cons (me_var (i := 9)) ma_nil)))) me_int) (mg_nm (n := 10) sc__law_full.nd))
    (ms_cons (ms_expr (me_call C__law_stand_in hr (ma_cons (me_var (i := 5)) (ma_cons (me_var (i := 7)) (ma_cons (me_var (i := 8)) (ma_cons (me_var (i := 9)) (ma_cons (me_var (i := 10)) ma_nil)))))))
    (ms_one (ms_asg (MF.me (mf_cat (me_var (i := 6)) (MF.me (mf_lst (ma_cons (me_tup (ma_cons (me_var (i := 8)) (ma_cons (me_var (i := 7)) ma_nil))) (ma_cons (me_tup (ma_cons (me_var (i := 9)) (ma_cons (me_var (i := 7)) ma_nil))) (ma_cons (me_tup (ma_cons (me_var (i := 10)) (ma_cons (me_var (i := 7)) ma_nil))) (ma_cons (me_tup (ma_cons (me_var (i := 8)) (ma_cons (me_var (i := 9)) ma_nil))) ma_nil)))))))) (mg_nm (n := 6) sc__law_full.nd)))))))
    (ms_one (ms_ret (me_var (i := 5))))))))
theorem ok__law_small {f : Addr} {fd : FuncData} (F : L2.Fun K "_law_small" "_law_small" s__law_small f fd) (hg : mg "_law_small" = some (.ref f)) (C_is_ring : Cal P w K mg base "is_ring" 2 (spM K 2 g_is_ring) 2) : Cal P w K mg base "_law_small" 1 (spM K 1 g__law_small) 3 :=
  def_ok (b := b__law_small) F hg sc__law_small (fun _ _ _ _ _ _ us hl => match us, hl with | [_], _ => rfl) fun cdv A outer s H E hr =>
    (ms_cons (ms_for (x := B1__law_small) (mi_seq (MF.me (mf_lst (ma_cons me_non (ma_cons me_bl (ma_cons me_int (ma_cons me_int (ma_cons me_str (ma_cons me_str (ma_cons (me_tup ma_nil) (ma_cons (MF.me (mf_lst ma_nil)) (ma_cons (MF.me mf_dnewK) (ma_cons (me_tupR (ma_cons (me_tup ma_nil) (ma_cons (me_tup ma_nil) (ma_cons (me_tup ma_nil) ma_nil)))) (ma_cons (me_tupR (ma_cons me_non (ma_cons me_non (ma_cons me_non ma_nil)))) (ma_cons (me_tupR (ma_cons me_str (ma_cons me_str (ma_cons me_str ma_nil)))) (ma_cons (MF.me (mf_disp (mp_cons me_int me_int mp_nil))) ma_nil)))))))))))))))) (mg_nm (n := 1) sc__law_small.nd) (ms_one (ms_if (c_notB (me_call C_is_ring hr (ma_cons (me_var (i := 0)) (ma_cons (me_var (i := 1)) ma_nil))) me_bl).2 (ms_one (ms_ret me_bl)) ms_nil)))
    (ms_cons (ms_asg (MF.me (mf_disp (mp_cons me_int (me_tupR (ma_cons me_int (ma_cons me_int ma_nil))) (mp_cons me_int (me_tupR (ma_cons me_int (ma_cons me_int ma_nil))) (mp_cons me_int (me_tupR (ma_cons me_int (ma_cons me_int ma_nil))) mp_nil))))) (mg_nm (n := 2) sc__law_small.nd))
    (ms_cons (ms_for (x := B2__law_small) (mi_seq (MF.me (mf_lst (ma_cons (me_tupR (ma_cons me_int (ma_cons me_int (ma_cons me_int ma_nil)))) (ma_cons (me_tupR (ma_cons me_int (ma_cons me_int (ma_cons me_int ma_nil)))) (ma_cons (me_tupR (ma_cons me_int (ma_cons me_int (ma_cons me_int ma_nil)))) ma_nil)))))) (mg_nm (n := 3) sc__law_small.nd) (ms_one (ms_if (c_notB (me_call C_is_ring hr (ma_cons (me_var (i := 2)) (ma_cons (me_var (i := 3)) ma_nil))) me_bl).2 (ms_one (ms_ret me_bl)) ms_nil)))
    (ms_cons (ms_asg (MF.me (mf_lst (ma_cons (me_tupR (ma_cons me_bl (ma_cons me_int (ma_cons me_int ma_nil)))) (ma_cons (me_tupR (ma_cons me_int (ma_cons me_bl (ma_cons me_int ma_nil)))) (ma_cons (me_tupR (ma_cons me_int (ma_cons me_int ma_nil))) (ma_cons (me_tupR (ma_cons me_int (ma_cons me_int (ma_cons me_int (ma_cons me_int ma_nil))))) (ma_cons (me_tupR (ma_cons me_int (ma_cons me_int (ma_cons me_int ma_nil)))) (ma_cons (MF.me (mf_lst (ma_cons me_int (ma_cons me_int (ma_cons me_int ma_nil))))) (ma_cons (me_tupR (ma_cons me_int (ma_cons me_int (ma_cons me_int ma_nil)))) (ma_cons (me_tupR (ma_cons (MF.me (mf_lst (ma_cons me_int ma_nil))) (ma_cons me_int (ma_cons me_int ma_nil)))) (ma_cons (me_tupR (ma_cons me_int (ma_cons me_int (ma_cons (MF.me mf_dnewK) ma_nil)))) ma_nil))))))))))) (mg_nm (n := 4) sc__law_small.nd))
    (ms_cons (ms_for (x := B3__law_small) (mi_seq (me_var (i := 4))) (mg_nm (n := 3) sc__law_small.nd) (ms_one (ms_if (c_notB (me_call C_is_ring hr (ma_cons (me_var (i := 2)) (ma_cons (me_var (i := 3)) ma_nil))) me_bl).2 (ms_one (ms_ret me_bl)) ms_nil)))
    (ms_one (ms_ret me_bl)))))))
theorem ok__law_flat {f : Addr} {fd : FuncData} (F : L2.Fun K "_law_flat" "_law_flat" s__law_flat f fd) (hg : mg "_law_flat" = some (.ref f)) (C__law_next : Cal P w K mg base "_law_next" 1 (spM K 1 g__law_next) 1) (C__law_names : Cal P w K mg base "_law_names" 2 (spM K 2 g__law_names) 2) (C__law_full : Cal P w K mg base "_law_full" 2 (spF K 2 (toldF Ew.g__law_full)) 3) (C__law_thinned : Cal P w K mg base "_law_thinned" 3 (spF K 3 (toldF Ew.g__law_thinned)) 2) (C__law_begun : Cal P w K mg base "_law_begun" 2 (spF K 2 (toldF Ew.g__law_begun)) 2) (m_len : mg "len" = none) : Cal P w K mg base "_law_flat" 2 (spM K 2 g__law_flat) 4 :=
  def_ok (b := b__law_flat) F hg sc__law_flat (fun _ _ _ _ _ _ us hl => match us, hl with | [_, _], _ => rfl) fun cdv A outer s H E hr =>
    (ms_cons (ms_asg (me_call C__law_next hr (ma_cons (me_var (i := 0)) ma_nil)) (mg_nm (n := 2) sc__law_flat.nd))
    (ms_cons (ms_asg (me_call C__law_names hr (ma_cons (me_var (i := 0)) (ma_cons (me_mod (me_var (i := 2)) (me_add (me_var (i := 1)) me_int)) ma_nil))) (mg_nm (n := 3) sc__law_flat.nd))
    (ms_cons (ms_asg (me_len m_len (ma_cons (me_var (i := 3)) ma_nil)) (mg_nm (n := 4) sc__law_flat.nd))
    (ms_cons (ms_if (c_eqA hr (me_mod (me_div (me_var (i := 2)) me_int) me_int) me_int).2 (ms_one (ms_asg (me_mod (me_div (me_var (i := 2)) me_int) (me_add (me_len m_len (ma_cons (me_var (i := 3)) ma_nil)) me_int)) (mg_nm (n := 4) sc__law_flat.nd))) ms_nil)
    (ms_cons (ms_asg (me_box mf_dnewK) (mg_nm (n := 5) sc__law_flat.nd))
    (ms_cons (ms_for (x := B1__law_flat) (mi_seq (MF.me (mf_lst (ma_cons (MF.me (mf_slL (me_var (i := 3)) mo_none (mo_some (me_var (i := 4))))) (ma_cons (MF.me (mf_slL (me_var (i := 3)) (mo_some (me_var (i := 4))) mo_none)) ma_nil))))) (mg_nm (n := 6) sc__law_flat.nd) (ms_one (ms_if (c_lt (me_len m_len (ma_cons (me_var (i := 6)) ma_nil)) me_int).2 (ms_one (ms_for (x := B2__law_flat) (mi_seq (me_var (i := 6))) (mg_nm (n := 7) sc__law_flat.nd) (ms_one (ms_put hr (me_var (i := 5)) (me_var (i := 7)) (MF.me (mf_lst ma_nil)))))) (ms_cons (ms_asg (MF.me (mf_call C__law_full hr (ma_cons (me_var (i := 0)) (ma_cons (me_var (i := 6)) ma_nil)))) (mg_nm (n := 8) sc__law_flat.nd))
    (ms_one (ms_expr (me_update (me_var (i := 5)) (MF.me (mf_call C__law_thinned hr (ma_cons (me_var (i := 0)) (ma_cons (me_var (i := 8)) (ma_cons (me_ix hr (MF.me (mf_lst (ma_cons me_int (ma_cons me_int (ma_cons me_int (ma_cons me_int (ma_cons me_int (ma_cons me_int (ma_cons me_int (ma_cons me_int ma_nil)))))))))) (me_mod (me_div (me_var (i := 2)) me_int) me_int)) ma_nil))))))))))))
    (ms_one (ms_ret (MF.me (mf_call C__law_begun hr (ma_cons (me_var (i := 0)) (ma_cons (me_var (i := 5)) ma_nil))))))))))))
theorem ok__law_web {f : Addr} {fd : FuncData} (F : L2.Fun K "_law_web" "_law_web" s__law_web f fd) (hg : mg "_law_web" = some (.ref f)) {cT PT : Addr} (hcd : fd.code = .ref cT) (T__law_web : LamX.TabB base mg cT PT) (TA__law_web : Tabs.adr 0 = PT) (TN__law_web : Tabs.nm 0 = ("_law_web" ++ ".<locals>.") ++ "<lambda>") (C__law_next : Cal P w K mg base "_law_next" 1 (spM K 1 g__law_next) 1) (C__law_names : Cal P w K mg base "_law_names" 2 (spM K 2 g__law_names) 2) (C__law_mixed : Cal P w K mg base "_law_mixed" 2 (spM K 2 g__law_mixed) 1) (m_max : mg "max" = none) (m_min : mg "min" = none) (m_tuple : mg "tuple" = none) (m_sorted : mg "sorted" = none) : Cal P w K mg base "_law_web" 2 (spM K 2 g__law_web) 5 :=
  def_okT (b := b__law_web) F hg hcd sc__law_web (fun _ _ _ _ _ _ us hl => match us, hl with | [_, _], _ => rfl) fun A outer s H E hr =>
    (ms_cons (ms_asg (me_call C__law_next hr (ma_cons (me_var (i := 0)) ma_nil)) (mg_nm (n := 2) sc__law_web.nd))
    (ms_cons (ms_asg (me_call C__law_names hr (ma_cons (me_var (i := 0)) (ma_cons (me_mod (me_var (i := 2)) (me_add (me_var (i := 1)) me_int)) ma_nil))) (mg_nm (n := 3) sc__law_web.nd))
    (ms_cons (ms_asg (me_ix hr (MF.me (mf_lst (ma_cons me_int (ma_cons me_int (ma_cons me_int (ma_cons me_int (ma_cons me_int (ma_cons me_int ma_nil)))))))) (me_mod (me_div (me_var (i := 2)) me_int) me_int)) (mg_nm (n := 4) sc__law_web.nd))
    (ms_cons (ms_asg (me_box mf_dnewK) (mg_nm (n := 5) sc__law_web.nd))
    (ms_cons (ms_for (x := B1__law_web) (mi_seq (me_var (i := 3))) (mg_nm (n := 6) sc__law_web.nd) (ms_cons (ms_setLc (n := 7) tF_val sc__law_web.nd (own := [("_law_v", 8)]) (mi_seq (me_var (i := 3))) (show blkC ["_law_drawn", "_law_most", "_law_number", "_law_names_here", "_law_share", "_law_web_here", "_law_u", "_law_others", "_law_v"] (defScope s__law_web) _ _ = true from by decide +kernel) (tgok_nm (by decide)) (fun _ _ _ _ _ => (pg_name (i := 8) sc__law_web.nd rfl (Or.inl rfl))) (fun _ _ _ _ _ => (mts_one (PW.pt (mw_and (c_neA hr (me_var (i := 8)) (me_var (i := 6))).2 (mw_and1 (c_lt (me_mod (me_call C__law_mixed hr (ma_cons (me_add (me_var (i := 2)) (me_min2 m_min (ma_cons (me_var (i := 6)) (ma_cons (me_var (i := 8)) ma_nil)))) (ma_cons (me_max2 m_max (ma_cons (me_var (i := 6)) (ma_cons (me_var (i := 8)) ma_nil))) ma_nil))) me_int) (me_var (i := 4))).2))))) (fun _ _ _ _ _ => (me_var (i := 8))) (sw_true rfl rfl rfl (by decide +kernel)))
    (ms_one (ms_put hr (me_var (i := 5)) (me_var (i := 6)) (me_tuple m_tuple (ma_cons (MF.me (mf_sortK (N := ["_law_v", "_law_number", "_law_u"]) (fr := ["_law_number", "_law_u"]) (p := "_law_v") (js := [2, 6]) m_sorted T__law_web rfl TA__law_web TN__law_web ⟨NdefX.nscope_by (by decide +kernel), rfl, (fun _ _ _ _ _ us hl => match us, hl with | [_], _ => rfl), rfl, NdefX.ndef_free (show NdefX.ndefB (defScope s__law_web) _ ["_law_number", "_law_u"] = true from by decide +kernel), NdefX.ndef_fr (sc := defScope s__law_web) (by decide +kernel), rfl⟩ (me_var (i := 7)) hr (fun _ _ _ _ _ _ _ hr => (me_call C__law_mixed hr (ma_cons (me_add (me_var (i := 1)) (me_var (i := 2))) (ma_cons (me_add (me_var (i := 0)) me_int) ma_nil)))))) ma_nil))))))
    (ms_one (ms_ret (me_var (i := 5)))))))))
theorem ok_law {f : Addr} {fd : FuncData} (F : L2.Fun K "law" "law" s_law f fd) (C__law_draws : Cal P w K mg base "_law_draws" 1 (spM K 1 g__law_draws) 2) (C__law_web : Cal P w K mg base "_law_web" 2 (spF K 2 (toldF Ew.g__law_web)) 5) (C__law_next : Cal P w K mg base "_law_next" 1 (spM K 1 g__law_next) 1) (C__law_flat : Cal P w K mg base "_law_flat" 2 (spM K 2 (toldV Ew.g__law_flat)) 4) (C__law_twin : Cal P w K mg base "_law_twin" 1 (spF K 1 (toldF Ew.g__law_twin)) 1) (C__law_small : Cal P w K mg base "_law_small" 1 (spM K 1 g__law_small) 3) (C__law_walk : Cal P w K mg base "_law_walk" 2 (spF K 2 (toldF Ew.g__law_walk)) 2) (C__law_bent : Cal P w K mg base "_law_bent" 3 (spM K 3 (toldV Ew.g__law_bent)) 2) (C__law_due : Cal P w K mg base "_law_due" 2 (spM K 2 g__law_due) 2) (C_is_ring : Cal P w K mg base "is_ring" 2 (spM K 2 g_is_ring) 2) (C__law_says : Cal P w K mg base "_law_says" 2 (spM K 2 g__law_says) 1) (m_range : mg "range" = none) (m_tuple : mg "tuple" = none) : FnOk P w K mg base CX0 6 f fd ["_law_script"] (spM K 1 g_law) :=
  def_fn (b := b_law) F sc_law fun cdv A outer s H E hr =>
    (ms_cons (ms_asg (me_call C__law_draws hr (ma_cons (me_var (i := 0)) ma_nil)) (mg_nm (n := 1) sc_law.nd))
    (ms_cons (ms_for (x := B1_law) (mi_range1 m_range me_int) (mg_nm (n := 2) sc_law.nd) (ms_cons (ms_asg (MF.me (mf_call C__law_web hr (ma_cons (me_var (i := 1)) (ma_cons me_int ma_nil)))) (mg_nm (n := 3) sc_law.nd))
    (ms_cons (ms_if (c_gt (me_mod (me_call C__law_next hr (ma_cons (me_var (i := 1)) ma_nil)) me_int) me_int).2 (ms_one (ms_asg (me_call C__law_flat hr (ma_cons (me_var (i := 1)) (ma_cons me_int ma_nil))) (mg_nm (n := 3) sc_law.nd))) ms_nil)
    (ms_cons (ms_asg (MF.me (mf_call C__law_twin hr (ma_cons (me_var (i := 3)) ma_nil))) (mg_nm (n := 4) sc_law.nd))
    (ms_cons (ms_if (mt_not (mt_val (me_call C__law_small hr (ma_cons (me_var (i := 3)) ma_nil)))) (ms_one (ms_ret me_bl)) ms_nil)
    (ms_cons (ms_for (x := B2_law) (mi_range1 m_range me_int) (mg_nm (n := 5) sc_law.nd) (ms_cons (ms_asg (MF.me (mf_lst ma_nil)) (mg_nm (n := 6) sc_law.nd))
    (ms_cons (ms_if (c_neA hr (me_var (i := 3)) (MF.me mf_dnewK)).2 (ms_cons (ms_asg (MF.me (mf_call C__law_walk hr (ma_cons (me_var (i := 3)) (ma_cons (me_var (i := 1)) ma_nil)))) (mg_nm (n := 7) sc_law.nd))
    (ms_one (ms_asg (MF.me (mf_lst (ma_cons (me_tuple m_tuple (ma_cons (me_var (i := 7)) ma_nil)) (ma_cons (me_call C__law_bent hr (ma_cons (me_var (i := 7)) (ma_cons (me_var (i := 3)) (ma_cons (me_var (i := 1)) ma_nil)))) ma_nil)))) (mg_nm (n := 6) sc_law.nd)))) ms_nil)
    (ms_one (ms_for (x := B3_law) (mi_seq (me_var (i := 6))) (mg_nm (n := 8) sc_law.nd) (ms_one (ms_if (mt_not (mt_val (me_call C__law_says hr (ma_cons (me_call C_is_ring hr (ma_cons (me_var (i := 3)) (ma_cons (me_var (i := 8)) ma_nil))) (ma_cons (me_call C__law_due hr (ma_cons (me_var (i := 3)) (ma_cons (me_var (i := 8)) ma_nil))) ma_nil))))) (ms_one (ms_ret me_bl)) ms_nil)))))))
    (ms_one (ms_if (c_neA hr (me_var (i := 3)) (me_var (i := 4))).2 (ms_one (ms_ret me_bl)) ms_nil))))))))
    (ms_one (ms_ret me_bl))))
end
theorem all_mk {l : PySem.W.OpenLaw} {w : World} {K : PySem.W.Frag} {h : Heap} {mg : Str → Option Value} {fa : Addr} (X : K.In h) (G : h.Ns mainGlobals mg) (hfa : mg "law" = some (.ref fa)) (TT : ∀ nm ∈ ["_law_web"], TabAt mg h (Str.ofString nm)) {f_is_number : Addr} {fd_is_number : FuncData} {f__law_mixed : Addr} {fd__law_mixed : FuncData} {f__law_next : Addr} {fd__law_next : FuncData} {f__law_behind : Addr} {fd__law_behind : FuncData} {f__law_put_behind : Addr} {fd__law_put_behind : FuncData} {f__law_twin : Addr} {fd__law_twin : FuncData} {f__law_is_point : Addr} {fd__law_is_point : FuncData} {f__law_says : Addr} {fd__law_says : FuncData} {f_is_ring : Addr} {fd_is_ring : FuncData} {f__law_draws : Addr} {fd__law_draws : FuncData} {f__law_names : Addr} {fd__law_names : FuncData} {f__law_stand_in : Addr} {fd__law_stand_in : FuncData} {f__law_thinned : Addr} {fd__law_thinned : FuncData} {f__law_begun : Addr} {fd__law_begun : FuncData} {f__law_walk : Addr} {fd__law_walk : FuncData} {f__law_bent : Addr} {fd__law_bent : FuncData} {f__law_due : Addr} {fd__law_due : FuncData} {f__law_full : Addr} {fd__law_full : FuncData} {f__law_small : Addr} {fd__law_small : FuncData} {f__law_flat : Addr} {fd__law_flat : FuncData} {f__law_web : Addr} {fd__law_web : FuncData} {f_law : Addr} {fd_law : FuncData} {t_SHORTEST : Tok} {cT__law_web PT__law_web : Addr}
    (d_is_number : DefAt K "is_number" s_is_number f_is_number fd_is_number) (d__law_mixed : DefAt K "_law_mixed" s__law_mixed f__law_mixed fd__law_mixed) (d__law_next : DefAt K "_law_next" s__law_next f__law_next fd__law_next) (d__law_behind : DefAt K "_law_behind" s__law_behind f__law_behind fd__law_behind) (d__law_put_behind : DefAt K "_law_put_behind" s__law_put_behind f__law_put_behind fd__law_put_behind) (d__law_twin : DefAt K "_law_twin" s__law_twin f__law_twin fd__law_twin) (d__law_is_point : DefAt K "_law_is_point" s__law_is_point f__law_is_point fd__law_is_point) (d__law_says : DefAt K "_law_says" s__law_says f__law_says fd__law_says) (d_is_ring : DefAt K "is_ring" s_is_ring f_is_ring fd_is_ring) (d__law_draws : DefAt K "_law_draws" s__law_draws f__law_draws fd__law_draws) (d__law_names : DefAt K "_law_names" s__law_names f__law_names fd__law_names) (d__law_stand_in : DefAt K "_law_stand_in" s__law_stand_in f__law_stand_in fd__law_stand_in) (d__law_thinned : DefAt K "_law_thinned" s__law_thinned f__law_thinned fd__law_thinned) (d__law_begun : DefAt K "_law_begun" s__law_begun f__law_begun fd__law_begun) (d__law_walk : DefAt K "_law_walk" s__law_walk f__law_walk fd__law_walk) (d__law_bent : DefAt K "_law_bent" s__law_bent f__law_bent fd__law_bent) (d__law_due : DefAt K "_law_due" s__law_due f__law_due fd__law_due) (d__law_full : DefAt K "_law_full" s__law_full f__law_full fd__law_full) (d__law_small : DefAt K "_law_small" s__law_small f__law_small fd__law_small) (d__law_flat : DefAt K "_law_flat" s__law_flat f__law_flat fd__law_flat) (d__law_web : DefAt K "_law_web" s__law_web f__law_web fd__law_web) (d_law : DefAt K "law" s_law f_law fd_law)
    (z_isinstance : PySem.W.nsIn K mainGlobals "isinstance" = some none) (z_bool : PySem.W.nsIn K mainGlobals "bool" = some none) (z_int : PySem.W.nsIn K mainGlobals "int" = some none) (z_len : PySem.W.nsIn K mainGlobals "len" = some none) (z_tuple : PySem.W.nsIn K mainGlobals "tuple" = some none) (z_all : PySem.W.nsIn K mainGlobals "all" = some none) (z_range : PySem.W.nsIn K mainGlobals "range" = some none) (z_min : PySem.W.nsIn K mainGlobals "min" = some none) (z_abs : PySem.W.nsIn K mainGlobals "abs" = some none) (z_max : PySem.W.nsIn K mainGlobals "max" = some none) (z_list : PySem.W.nsIn K mainGlobals "list" = some none) (z_sorted : PySem.W.nsIn K mainGlobals "sorted" = some none) (z_str : PySem.W.nsIn K mainGlobals "str" = some none) (y_SHORTEST : PySem.W.nsIn K mainGlobals "SHORTEST" = some (some (.int 3 t_SHORTEST)))
    (e__law_web : fd__law_web.code = .ref cT__law_web) (u__law_web : TabIn K cT__law_web PT__law_web) (nd : [PT__law_web].Nodup) :
    LamX.LawAtS l w K CX0 6 63 "_law_script" mg fa h := by
  letI : Tabs := ⟨fun i => [PT__law_web].getD i 0, fun i => [("_law_web" ++ ".<locals>.") ++ "<lambda>"].getD i ""⟩
  have g_is_number : mg "is_number" = some (.ref f_is_number) := PySem.W.mg_of X G d_is_number.1
  have g__law_mixed : mg "_law_mixed" = some (.ref f__law_mixed) := PySem.W.mg_of X G d__law_mixed.1
  have g__law_next : mg "_law_next" = some (.ref f__law_next) := PySem.W.mg_of X G d__law_next.1
  have g__law_behind : mg "_law_behind" = some (.ref f__law_behind) := PySem.W.mg_of X G d__law_behind.1
  have g__law_put_behind : mg "_law_put_behind" = some (.ref f__law_put_behind) := PySem.W.mg_of X G d__law_put_behind.1
  have g__law_twin : mg "_law_twin" = some (.ref f__law_twin) := PySem.W.mg_of X G d__law_twin.1
  have g__law_is_point : mg "_law_is_point" = some (.ref f__law_is_point) := PySem.W.mg_of X G d__law_is_point.1
  have g__law_says : mg "_law_says" = some (.ref f__law_says) := PySem.W.mg_of X G d__law_says.1
  have g_is_ring : mg "is_ring" = some (.ref f_is_ring) := PySem.W.mg_of X G d_is_ring.1
  have g__law_draws : mg "_law_draws" = some (.ref f__law_draws) := PySem.W.mg_of X G d__law_draws.1
  have g__law_names : mg "_law_names" = some (.ref f__law_names) := PySem.W.mg_of X G d__law_names.1
  have g__law_stand_in : mg "_law_stand_in" = some (.ref f__law_stand_in) := PySem.W.mg_of X G d__law_stand_in.1
  have g__law_thinned : mg "_law_thinned" = some (.ref f__law_thinned) := PySem.W.mg_of X G d__law_thinned.1
  have g__law_begun : mg "_law_begun" = some (.ref f__law_begun) := PySem.W.mg_of X G d__law_begun.1
  have g__law_walk : mg "_law_walk" = some (.ref f__law_walk) := PySem.W.mg_of X G d__law_walk.1
  have g__law_bent : mg "_law_bent" = some (.ref f__law_bent) := PySem.W.mg_of X G d__law_bent.1
  have g__law_due : mg "_law_due" = some (.ref f__law_due) := PySem.W.mg_of X G d__law_due.1
  have g__law_full : mg "_law_full" = some (.ref f__law_full) := PySem.W.mg_of X G d__law_full.1
  have g__law_small : mg "_law_small" = some (.ref f__law_small) := PySem.W.mg_of X G d__law_small.1
  have g__law_flat : mg "_law_flat" = some (.ref f__law_flat) := PySem.W.mg_of X G d__law_flat.1
  have g__law_web : mg "_law_web" = some (.ref f__law_web) := PySem.W.mg_of X G d__law_web.1
  have g_law : mg "law" = some (.ref f_law) := PySem.W.mg_of X G d_law.1
  have m_isinstance : mg "isinstance" = none := PySem.W.mg_none_of X G z_isinstance
  have m_bool : mg "bool" = none := PySem.W.mg_none_of X G z_bool
  have m_int : mg "int" = none := PySem.W.mg_none_of X G z_int
  have m_len : mg "len" = none := PySem.W.mg_none_of X G z_len
  have m_tuple : mg "tuple" = none := PySem.W.mg_none_of X G z_tuple
  have m_all : mg "all" = none := PySem.W.mg_none_of X G z_all
  have m_range : mg "range" = none := PySem.W.mg_none_of X G z_range
  have m_min : mg "min" = none := PySem.W.mg_none_of X G z_min
  have m_abs : mg "abs" = none := PySem.W.mg_none_of X G z_abs
  have m_max : mg "max" = none := PySem.W.mg_none_of X G z_max
  have m_list : mg "list" = none := PySem.W.mg_none_of X G z_list
  have m_sorted : mg "sorted" = none := PySem.W.mg_none_of X G z_sorted
  have m_str : mg "str" = none := PySem.W.mg_none_of X G z_str
  have q_SHORTEST : ∃ t, mg "SHORTEST" = some (.int 3 t) := ⟨_, PySem.W.mg_of X G y_SHORTEST⟩
  have e := hfa.symm.trans g_law
  cases e
  have k__law_web := tab_facts X d__law_web.2 g__law_web e__law_web u__law_web (TT "_law_web" (by decide))
  refine ⟨fd_law, [(cT__law_web, PT__law_web)], spLawT K [PT__law_web], ?_, ?_, ?_, fun s v => ?_, fun H a ns hl hb hH hS => ⟨a, ns, rfl, hS, hl, hb, ?_, fun _ => rfl⟩, fun base _ _ hT => ?_⟩
  · intro p hp
    simp only [List.mem_cons, List.not_mem_nil, or_false] at hp
    rcases hp with rfl
    · exact k__law_web.2.2
  · intro p hp
    simp only [List.mem_cons, List.not_mem_nil, or_false] at hp
    rcases hp with rfl
    · exact k__law_web.1
  · intro p hp
    simp only [List.mem_cons, List.not_mem_nil, or_false] at hp
    rcases hp with rfl
    · exact k__law_web.2.1
  · obtain ⟨oc, od, kV, doc, pm, an, cdv, ct, osl, efd, _, _⟩ := d_law.2.ex
    subst efd
    exact .of_eq rfl
  · intro p hp
    simp only [List.mem_cons, List.not_mem_nil, or_false] at hp
    rcases hp with hp
    · rw [hp]; exact hH (cT__law_web, PT__law_web) (by simp)
  · have C_is_number := ok_is_number (P := l.prog) (w := w) (base := base) d_is_number.2 g_is_number m_isinstance m_bool m_int
    have C__law_mixed := ok__law_mixed (P := l.prog) (w := w) (base := base) d__law_mixed.2 g__law_mixed 
    have C__law_next := ok__law_next (P := l.prog) (w := w) (base := base) d__law_next.2 g__law_next 
    have C__law_behind := ok__law_behind (P := l.prog) (w := w) (base := base) d__law_behind.2 g__law_behind m_len
    have C__law_put_behind := ok__law_put_behind (P := l.prog) (w := w) (base := base) d__law_put_behind.2 g__law_put_behind 
    have C__law_twin := (ok__law_twin (P := l.prog) (w := w) (base := base) d__law_twin.2 g__law_twin ).fresh (toldF_ok Ew.g__law_twin)
    have C__law_is_point := ok__law_is_point (P := l.prog) (w := w) (base := base) d__law_is_point.2 g__law_is_point m_isinstance m_bool m_int
    have C__law_says := ok__law_says (P := l.prog) (w := w) (base := base) d__law_says.2 g__law_says 
    have C_is_ring := ok_is_ring (P := l.prog) (w := w) (base := base) d_is_ring.2 g_is_ring C_is_number m_len m_isinstance m_tuple m_all m_range q_SHORTEST
    have C__law_draws := ok__law_draws (P := l.prog) (w := w) (base := base) d__law_draws.2 g__law_draws C__law_mixed m_range m_min m_len m_abs
    have C__law_names := ok__law_names (P := l.prog) (w := w) (base := base) d__law_names.2 g__law_names C__law_next m_range
    have C__law_stand_in := ok__law_stand_in (P := l.prog) (w := w) (base := base) d__law_stand_in.2 g__law_stand_in C__law_put_behind
    have C__law_thinned := (ok__law_thinned (P := l.prog) (w := w) (base := base) d__law_thinned.2 g__law_thinned C__law_next C__law_mixed m_max m_min).fresh (toldF_ok Ew.g__law_thinned)
    have C__law_begun := (ok__law_begun (P := l.prog) (w := w) (base := base) d__law_begun.2 g__law_begun C__law_next C__law_mixed m_list m_max m_len m_tuple).fresh (toldF_ok Ew.g__law_begun)
    have C__law_walk := (ok__law_walk (P := l.prog) (w := w) (base := base) d__law_walk.2 g__law_walk C__law_next m_sorted m_len m_list m_range).fresh (toldF_ok Ew.g__law_walk)
    have C__law_bent := (ok__law_bent (P := l.prog) (w := w) (base := base) d__law_bent.2 g__law_bent C__law_next m_len m_sorted m_str m_tuple m_list).told (toldV_ok Ew.g__law_bent)
    have C__law_due := ok__law_due (P := l.prog) (w := w) (base := base) d__law_due.2 g__law_due C__law_is_point m_len m_isinstance m_tuple m_list m_range
    have C__law_full := (ok__law_full (P := l.prog) (w := w) (base := base) d__law_full.2 g__law_full C__law_next C__law_behind C__law_stand_in m_len).fresh (toldF_ok Ew.g__law_full)
    have C__law_small := ok__law_small (P := l.prog) (w := w) (base := base) d__law_small.2 g__law_small C_is_ring
    have C__law_flat := (ok__law_flat (P := l.prog) (w := w) (base := base) d__law_flat.2 g__law_flat C__law_next C__law_names C__law_full C__law_thinned C__law_begun m_len).told (toldV_ok Ew.g__law_flat)
    have C__law_web := (ok__law_web (P := l.prog) (w := w) (base := base) d__law_web.2 g__law_web e__law_web (hT (cT__law_web, PT__law_web) (by simp)) rfl rfl C__law_next C__law_names C__law_mixed m_max m_min m_tuple m_sorted).fresh (toldF_ok Ew.g__law_web)
    exact law_fnT (ok_law d_law.2 C__law_draws C__law_web C__law_next C__law_flat C__law_twin C__law_small C__law_walk C__law_bent C__law_due C_is_ring C__law_says m_range m_tuple) nd (fun n p h => by rw [show Tabs.adr n = [PT__law_web].getD n 0 from rfl, List.getD_eq_getElem?_getD, h]; rfl) fun ns hl _ => law_true ns hl
end Ew
end
open PySem PySem.W PyProof.Rows in
set_option maxRecDepth 100000 in
set_option maxHeartbeats 0 in
theorem PySem.Challenge.cw_evenwalls_k27_rings_or_not_holds : PySem.Challenge.rw_evenwalls_k27_rings_or_not.Holds := by
  w_on; o_law; k_head; (case hw => w_witness2)
  k_fill
  refine Ew.walk_ofTabs (l := PySem.Challenge.rw_evenwalls_k27_rings_or_not) (n := 63) (k := 6) (x := "_law_script") (CX := fun _ => L2.CX0) ["_law_web"] rfl (by decide) rfl ⟨rfl, by decide, by decide⟩ (by decide +kernel) (fun w h Y => PySem.W.km_in_of Y) ?F (fun _ _ _ _ _ h => h)
  case F =>
    intro w mg fa h Y KX G hmg TT
    refine' Ew.all_mk KX G hmg TT ?d_is_number ?d__law_mixed ?d__law_next ?d__law_behind ?d__law_put_behind ?d__law_twin ?d__law_is_point ?d__law_says ?d_is_ring ?d__law_draws ?d__law_names ?d__law_stand_in ?d__law_thinned ?d__law_begun ?d__law_walk ?d__law_bent ?d__law_due ?d__law_full ?d__law_small ?d__law_flat ?d__law_web ?d_law ?z_isinstance ?z_bool ?z_int ?z_len ?z_tuple ?z_all ?z_range ?z_min ?z_abs ?z_max ?z_list ?z_sorted ?z_str ?y_SHORTEST ?e__law_web ?u__law_web ?nd
    (case d_is_number => exact Ew.defAt_mk (by k_is) (by k_is) (by k_is) (by k_is))
    (case d__law_mixed => exact Ew.defAt_mk (by k_is) (by k_is) (by k_is) (by k_is))
    (case d__law_next => exact Ew.defAt_mk (by k_is) (by k_is) (by k_is) (by k_is))
    (case d__law_behind => exact Ew.defAt_mk (by k_is) (by k_is) (by k_is) (by k_is))
    (case d__law_put_behind => exact Ew.defAt_mk (by k_is) (by k_is) (by k_is) (by k_is))
    (case d__law_twin => exact Ew.defAt_mk (by k_is) (by k_is) (by k_is) (by k_is))
    (case d__law_is_point => exact Ew.defAt_mk (by k_is) (by k_is) (by k_is) (by k_is))
    (case d__law_says => exact Ew.defAt_mk (by k_is) (by k_is) (by k_is) (by k_is))
    (case d_is_ring => exact Ew.defAt_mk (by k_is) (by k_is) (by k_is) (by k_is))
    (case d__law_draws => exact Ew.defAt_mk (by k_is) (by k_is) (by k_is) (by k_is))
    (case d__law_names => exact Ew.defAt_mk (by k_is) (by k_is) (by k_is) (by k_is))
    (case d__law_stand_in => exact Ew.defAt_mk (by k_is) (by k_is) (by k_is) (by k_is))
    (case d__law_thinned => exact Ew.defAt_mk (by k_is) (by k_is) (by k_is) (by k_is))
    (case d__law_begun => exact Ew.defAt_mk (by k_is) (by k_is) (by k_is) (by k_is))
    (case d__law_walk => exact Ew.defAt_mk (by k_is) (by k_is) (by k_is) (by k_is))
    (case d__law_bent => exact Ew.defAt_mk (by k_is) (by k_is) (by k_is) (by k_is))
    (case d__law_due => exact Ew.defAt_mk (by k_is) (by k_is) (by k_is) (by k_is))
    (case d__law_full => exact Ew.defAt_mk (by k_is) (by k_is) (by k_is) (by k_is))
    (case d__law_small => exact Ew.defAt_mk (by k_is) (by k_is) (by k_is) (by k_is))
    (case d__law_flat => exact Ew.defAt_mk (by k_is) (by k_is) (by k_is) (by k_is))
    (case d__law_web => exact Ew.defAt_mk (by k_is) (by k_is) (by k_is) (by k_is))
    (case d_law => exact Ew.defAt_mk (by k_is) (by k_is) (by k_is) (by k_is))
    (case z_isinstance => k_is)
    (case z_bool => k_is)
    (case z_int => k_is)
    (case z_len => k_is)
    (case z_tuple => k_is)
    (case z_all => k_is)
    (case z_range => k_is)
    (case z_min => k_is)
    (case z_abs => k_is)
    (case z_max => k_is)
    (case z_list => k_is)
    (case z_sorted => k_is)
    (case z_str => k_is)
    (case y_SHORTEST => k_is)
    (case e__law_web => exact rfl)
    (case u__law_web => exact Ew.tabIn_mk (by k_is) rfl (by kernel_rfl))
    (case nd => decide)
