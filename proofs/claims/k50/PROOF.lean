import PyProof.Rows.All
import Wide.All
import OpenK.AllK
import Wide.FinOn
import PySem.Str
import HandS.ForMost
import HandS.Wide
import HandS.IsInst
import HandS.Style
import HandS.SortInts
import HandS.Conv
import HandS.EndBits
import HandS.TupLen
import HandS.NoneIn
import PySem.Challenge.RW_evenwalls_k50_reckoned_with_fractions
section
set_option linter.all false
/-! EwS: a small machine for the Python of this program: values, cells, expressions and statements as functions of slots and cells. -/
namespace Ew
open PySem (Str)
/-- a key of a dict -/
abbrev MK := Sum Int Str
/-- a value; lst, dK, dT are lists and dicts that are never written again; ref n is the cell n; scr the script -/
inductive MV where
  | non | bl (b : Bool) | int (i : Int) | str (x : Str)
  | tup (xs : List MV) | lst (xs : List MV) | scr (xs : List Int)
  | dK (kvs : List (MK × MV)) | dT (kvs : List (List MK × MV))
  | ref (n : Nat)
/-- a cell: what may be written -/
inductive MC where
  | lst (xs : List MV) | dK (kvs : List (MK × MV)) | dT (kvs : List (List MK × MV))
  | lkK (kvs : List (MK × MV)) | lkT (kvs : List (List MK × MV))
abbrev MH := List MC
abbrev SM := List (Option MV)
abbrev XE := SM → MH → Option (MV × MH)
abbrev XT := SM → MH → Option (Bool × MH)
abbrev XA := SM → MH → Option (List MV × MH)
inductive Fl where
  | nx | rt (v : MV) | bk | ct
abbrev XS := SM → MH → Option (Fl × SM × MH)
abbrev XG := MV → SM → MH → Option (SM × MH)
abbrev Fn := List MV → MH → Option (MV × MH)

/-! ### expressions -/
def xVar (i : Nat) : XE := fun s h => match s[i]? with
  | some (some v) => some (v, h)
  | _ => none
def xC (v : MV) : XE := fun _ h => some (v, h)
/-- an operation of two values that changes nothing -/
def xOp (f : MH → MV → MV → Option MV) (a b : XE) : XE := fun s h => match a s h with
  | none => none
  | some (x, h1) => match b s h1 with
    | none => none
    | some (y, h2) => match f h2 x y with
      | none => none
      | some v => some (v, h2)
def xUn (f : MH → MV → Option MV) (a : XE) : XE := fun s h => match a s h with
  | none => none
  | some (x, h1) => match f h1 x with
    | none => none
    | some v => some (v, h1)
def xNil : XA := fun _ h => some ([], h)
def xCons (a : XE) (r : XA) : XA := fun s h => match a s h with
  | none => none
  | some (x, h1) => match r s h1 with
    | none => none
    | some (xs, h2) => some (x :: xs, h2)
/-- an operation of arguments that changes nothing -/
def xArgs (f : MH → List MV → Option MV) (a : XA) : XE := fun s h => match a s h with
  | none => none
  | some (xs, h1) => match f h1 xs with
    | none => none
    | some v => some (v, h1)
/-- a call -/
def xCall (g : Fn) (a : XA) : XE := fun s h => match a s h with
  | none => none
  | some (xs, h1) => g xs h1
def xTup (a : XA) : XE := fun s h => match a s h with
  | none => none
  | some (xs, h1) => some (.tup xs, h1)
def xLst (a : XA) : XE := fun s h => match a s h with
  | none => none
  | some (xs, h1) => some (.lst xs, h1)
/-- a fresh list or dict made a cell -/
def boxM (v : MV) (h : MH) : Option (MV × MH) := match v with
  | .lst xs => some (.ref h.length, h ++ [.lst xs])
  | .dK kvs => some (.ref h.length, h ++ [.dK kvs])
  | .dT kvs => some (.ref h.length, h ++ [.dT kvs])
  | _ => none
def xBox (e : XE) : XE := fun s h => match e s h with
  | none => none
  | some (v, h1) => boxM v h1
def xIf (c : XT) (a b : XE) : XE := fun s h => match c s h with
  | none => none
  | some (true, h1) => a s h1
  | some (false, h1) => b s h1
/-- and, or, not as values -/
def xAnd (a b : XE) : XE := fun s h => match a s h with
  | some (.bl true, h1) => b s h1
  | some (.bl false, h1) => some (.bl false, h1)
  | _ => none
def xOr (a b : XE) : XE := fun s h => match a s h with
  | some (.bl true, h1) => some (.bl true, h1)
  | some (.bl false, h1) => b s h1
  | _ => none
def xNot (a : XE) : XE := fun s h => match a s h with
  | some (.bl k, h1) => some (.bl (!k), h1)
  | _ => none
/-! ### tests -/
def xB (a : XE) : XT := fun s h => match a s h with
  | some (.bl k, h1) => some (k, h1)
  | _ => none
def xAndT (a b : XT) : XT := fun s h => match a s h with
  | none => none
  | some (true, h1) => b s h1
  | some (false, h1) => some (false, h1)
def xOrT (a b : XT) : XT := fun s h => match a s h with
  | none => none
  | some (true, h1) => some (true, h1)
  | some (false, h1) => b s h1
def xNotT (a : XT) : XT := fun s h => match a s h with
  | none => none
  | some (k, h1) => some (!k, h1)

/-! ### what is read of values -/
/-- a list: a value, the script, a cell -/
def listOf (h : MH) : MV → Option (List MV)
  | .lst xs => some xs
  | .scr xs => some (xs.map .int)
  | .ref n => match h[n]? with
    | some (.lst xs) => some xs
    | _ => none
  | _ => none
/-- a list or a tuple -/
def seqOf (h : MH) : MV → Option (List MV)
  | .tup xs => some xs
  | v => listOf h v
def dictK (h : MH) : MV → Option (List (MK × MV))
  | .dK kvs => some kvs
  | .ref n => match h[n]? with
    | some (.dK kvs) => some kvs
    | some (.lkK kvs) => some kvs
    | _ => none
  | _ => none
def dictT (h : MH) : MV → Option (List (List MK × MV))
  | .dT kvs => some kvs
  | .ref n => match h[n]? with
    | some (.dT kvs) => some kvs
    | some (.lkT kvs) => some kvs
    | _ => none
  | _ => none
def keyOf : MV → Option MK
  | .int i => some (.inl i)
  | .str x => some (.inr x)
  | _ => none
def keysOf : List MV → Option (List MK)
  | [] => some []
  | v :: r => match keyOf v, keysOf r with
    | some k, some ks => some (k :: ks)
    | _, _ => none
def keyV : MK → MV
  | .inl i => .int i
  | .inr x => .str x
def getK {κ : Type} [DecidableEq κ] (kvs : List (κ × MV)) (k : κ) : Option MV := (kvs.find? fun kv => decide (kv.1 = k)).map (·.2)
def putM {κ : Type} [DecidableEq κ] (kvs : List (κ × MV)) (k : κ) (v : MV) : List (κ × MV) :=
  if kvs.any (fun kv => decide (kv.1 = k)) then kvs.map (fun kv => if kv.1 = k then (kv.1, v) else kv) else kvs ++ [(k, v)]
/-- what a dict has at a key: none where it is no dict, no key -/
def lookM (h : MH) (d k : MV) : Option (Option MV) := match k with
  | .tup ks => match dictT h d, keysOf ks with
    | some kvs, some kk => some (getK kvs kk)
    | _, _ => none
  | k => match dictK h d, keyOf k with
    | some kvs, some kk => some (getK kvs kk)
    | _, _ => none

/-! ### numbers -/
def opAdd (_ : MH) : MV → MV → Option MV
  | .int i, .int j => some (.int (i + j))
  | _, _ => none
def opSub (_ : MH) : MV → MV → Option MV
  | .int i, .int j => some (.int (i - j))
  | _, _ => none
def opMul (_ : MH) : MV → MV → Option MV
  | .int i, .int j => if i.natAbs.log2 + j.natAbs.log2 < 1000000 then some (.int (i * j)) else none
  | _, _ => none
def opDiv (_ : MH) : MV → MV → Option MV
  | .int i, .int j => if 0 < j ∧ j.natAbs.log2 < 9000 then some (.int (i / j)) else none
  | _, _ => none
def opMod (_ : MH) : MV → MV → Option MV
  | .int i, .int j => if 0 < j then some (.int (i % j)) else none
  | _, _ => none
def opPow (_ : MH) : MV → MV → Option MV
  | .int i, .int j => if 0 ≤ j ∧ j ≤ 1000000 ∧ i.natAbs < 2 ^ 64 then some (.int (i ^ j.toNat)) else none
  | _, _ => none
def opNeg (_ : MH) : MV → Option MV
  | .int i => some (.int (-i))
  | _ => none
def opLt (_ : MH) : MV → MV → Option MV
  | .int i, .int j => some (.bl (decide (i < j)))
  | _, _ => none
def opLe (_ : MH) : MV → MV → Option MV
  | .int i, .int j => some (.bl (decide (i ≤ j)))
  | _, _ => none
def opGt (_ : MH) : MV → MV → Option MV
  | .int i, .int j => some (.bl (decide (j < i)))
  | _, _ => none
def opGe (_ : MH) : MV → MV → Option MV
  | .int i, .int j => some (.bl (decide (j ≤ i)))
  | _, _ => none
/-! ### equality of data -/
def strFine (x : Str) : Bool := x.cps.all (fun c => decide (c < 1114112)) && decide (x.cps.size ≤ 16777216)
mutual
/-- == of data -/
def eqD : MV → MV → Bool
  | .non, .non => true
  | .bl a, .bl b => a == b
  | .bl a, .int j => (if a then 1 else 0) == j
  | .int i, .bl b => i == (if b then 1 else 0)
  | .int a, .int b => a == b
  | .str a, .str b => a == b
  | .tup xs, .tup ys => eqDs xs ys
  | .lst xs, .lst ys => eqDs xs ys
  | _, _ => false
def eqDs : List MV → List MV → Bool
  | [], [] => true
  | x :: xs, y :: ys => eqD x y && eqDs xs ys
  | _, _ => false
end
mutual
/-- data of some depth: None, truths, numbers, texts, tuples, lists -/
def isD : Nat → MV → Bool
  | _, .non => true
  | _, .bl _ => true
  | _, .int _ => true
  | _, .str x => strFine x
  | n + 1, .tup xs => isDs n xs
  | n + 1, .lst xs => isDs n xs
  | _, _ => false
def isDs : Nat → List MV → Bool
  | _, [] => true
  | n, x :: xs => isD n x && isDs n xs
end
def eqM (x y : MV) : Option Bool := if isD 60 x && isD 60 y then some (eqD x y) else none
/-- a cell of data read as a value -/
def rdM (h : MH) : MV → MV
  | .ref n => match h[n]? with
    | some (.lst xs) => .lst xs
    | _ => .ref n
  | v => v
def opEq (h : MH) (x y : MV) : Option MV := (eqM (rdM h x) (rdM h y)).map .bl
def opNe (h : MH) (x y : MV) : Option MV := (eqM (rdM h x) (rdM h y)).map fun k => .bl (!k)
def opIsNon (_ : MH) (x : MV) (y : MV) : Option MV := match y with
  | .non => some (.bl (match x with | .non => true | _ => false))
  | _ => none
def opNotNon (_ : MH) (x : MV) (y : MV) : Option MV := match y with
  | .non => some (.bl (match x with | .non => false | _ => true))
  | _ => none
/-! ### x in y -/
def flatM : MV → Bool
  | .non => true | .bl _ => true | .int _ => true | .str _ => true
  | _ => false
def feqM : MV → MV → Bool
  | .non, .non => true
  | .bl a, .bl b => a == b
  | .bl a, .int b => (if a then 1 else 0) == b
  | .int a, .bl b => a == (if b then 1 else 0)
  | .int a, .int b => a == b
  | .str a, .str b => a == b
  | _, _ => false
def inSeq (x : MV) (xs : List MV) : Option Bool := if flatM x && xs.all flatM then some (xs.any fun y => feqM y x) else none
def opIn (h : MH) (x d : MV) : Option MV := match seqOf h d with
  | some xs => (inSeq x xs).map .bl
  | none => (lookM h d x).map fun o => .bl o.isSome
def opNotIn (h : MH) (x d : MV) : Option MV := match seqOf h d with
  | some xs => (inSeq x xs).map fun k => .bl (!k)
  | none => (lookM h d x).map fun o => .bl (!o.isSome)
/-! ### items, slices -/
def ixM (n : Nat) (i : Int) : Option Nat := if 0 ≤ i then (if i < n then some i.toNat else none) else if -(n : Int) ≤ i then some (i + n).toNat else none
def atM (xs : List MV) (i : Int) : Option MV := (ixM xs.length i).bind fun j => xs[j]?
/-- o[i] -/
def opIx (h : MH) (d k : MV) : Option MV := match seqOf h d, k with
  | some xs, .int i => atM xs i
  | some _, _ => none
  | none, k => match lookM h d k with
    | some (some v) => some v
    | _ => none
def sIxM (n d : Nat) : Option Int → Nat
  | none => d
  | some v => if v < 0 then (v + (n : Int)).toNat else min v.toNat n
def cutM (xs : List MV) (lo hi : Option Int) : List MV := (xs.drop (sIxM xs.length 0 lo)).take (sIxM xs.length xs.length hi - sIxM xs.length 0 lo)
abbrev XO := SM → MH → Option (Option Int × MH)
def xNoPart : XO := fun _ h => some (none, h)
def xPart (e : XE) : XO := fun s h => match e s h with
  | some (.int i, h1) => some (some i, h1)
  | _ => none
/-- xs[lo:hi] of a list: a fresh list -/
def xSlL (e : XE) (lo hi : XO) : XE := fun s h => match e s h with
  | none => none
  | some (v, h1) => match lo s h1 with
    | none => none
    | some (l, h2) => match hi s h2 with
      | none => none
      | some (u, h3) => match listOf h3 v with
        | none => none
        | some xs => some (.lst (cutM xs l u), h3)
/-- t[lo:hi] of a tuple -/
def xSlT (e : XE) (lo hi : XO) : XE := fun s h => match e s h with
  | none => none
  | some (v, h1) => match lo s h1 with
    | none => none
    | some (l, h2) => match hi s h2 with
      | none => none
      | some (u, h3) => match v with
        | .tup xs => some (.tup (cutM xs l u), h3)
        | _ => none
/-! ### built-ins -/
def szLine : Nat := 16777216
def fLen (h : MH) : List MV → Option MV
  | [v] => match seqOf h v with
    | some xs => some (.int xs.length)
    | none => match dictK h v with
      | some kvs => some (.int kvs.length)
      | none => match dictT h v with
        | some kvs => some (.int kvs.length)
        | none => none
  | _ => none
def fAbs (_ : MH) : List MV → Option MV
  | [.int i] => some (.int (if i < 0 then -i else i))
  | _ => none
def fMax2 (_ : MH) : List MV → Option MV
  | [.int i, .int j] => some (.int (if j > i then j else i))
  | _ => none
def fMin2 (_ : MH) : List MV → Option MV
  | [.int i, .int j] => some (.int (if j < i then j else i))
  | _ => none
/-- a value's type by its name -/
def tyN (h : MH) : MV → Option String
  | .non => some "NoneType"
  | .bl _ => some "bool"
  | .int _ => some "int"
  | .str _ => some "str"
  | .tup _ => some "tuple"
  | .lst _ => some "list"
  | .scr _ => some "list"
  | .dK _ => some "dict"
  | .dT _ => none
  | .ref n => match h[n]? with
    | some (.lst _) => some "list"
    | some (.dK _) => some "dict"
    | some (.dT _) => some "dict"
    | some (.lkK _) => some "dict"
    | _ => none
def subTy (a t : String) : Bool := a == t || (a == "bool" && t == "int")
def fIsi (t : String) (h : MH) : List MV → Option MV
  | [v] => match tyN h v with
    | some a => some (.bl (subTy a t))
    | none => none
  | _ => none
/-- list(x) of a list or tuple -/
def fList (h : MH) : List MV → Option MV
  | [v] => (seqOf h v).map .lst
  | _ => none
/-- tuple(x) of a list or tuple -/
def fTuple (h : MH) : List MV → Option MV
  | [v] => (seqOf h v).map .tup
  | _ => none
def boolsOf : List MV → Option (List Bool)
  | [] => some []
  | .bl k :: r => (boolsOf r).map (k :: ·)
  | _ => none
def intsOf : List MV → Option (List Int)
  | [] => some []
  | .int k :: r => (intsOf r).map (k :: ·)
  | _ => none
def fAll (h : MH) : List MV → Option MV
  | [v] => match listOf h v with
    | some xs => (boolsOf xs).map fun bs => .bl (bs.all id)
    | none => none
  | _ => none
/-! ### methods that write into a cell -/
def isLstC (h : MH) (n : Nat) : Bool := match h[n]? with
  | some (.lst _) => true
  | _ => false
def xAppend (o e : XE) : XE := fun s h => match o s h with
  | some (.ref n, h1) => if isLstC h1 n then match e s h1 with
    | some (v, h2) => match h2[n]? with
      | some (.lst xs) => if xs.length < szLine then some (.non, h2.set n (.lst (xs ++ [v]))) else none
      | _ => none
    | none => none
    else none
  | _ => none
def xExtend (o e : XE) : XE := fun s h => match o s h with
  | some (.ref n, h1) => if isLstC h1 n then match e s h1 with
    | some (.lst ys, h2) => match h2[n]? with
      | some (.lst xs) => if xs.length + ys.length ≤ szLine then some (.non, h2.set n (.lst (xs ++ ys))) else none
      | _ => none
    | _ => none
    else none
  | _ => none
def xPop (o : XE) : XE := fun s h => match o s h with
  | some (.ref n, h1) => match h1[n]? with
    | some (.lst xs) => match xs[xs.length - 1]? with
      | some y => some (y, h1.set n (.lst xs.dropLast))
      | none => none
    | _ => none
  | _ => none
def xPopAt (o i : XE) : XE := fun s h => match o s h with
  | some (.ref n, h1) => if isLstC h1 n then match i s h1 with
    | some (.int i, h2) => match h2[n]? with
      | some (.lst xs) => if -(2 ^ 62) ≤ i ∧ i < 2 ^ 62 then match ixM xs.length i with
        | some j => match xs[j]? with
          | some y => some (y, h2.set n (.lst (xs.eraseIdx j)))
          | none => none
        | none => none
        else none
      | _ => none
    | _ => none
    else none
  | _ => none

/-! ### statements -/
def sNext : XS := fun s h => some (.nx, s, h)
def sSeq (a b : XS) : XS := fun s h => match a s h with
  | some (.nx, s1, h1) => b s1 h1
  | r => r
def sExpr (e : XE) : XS := fun s h => match e s h with
  | none => none
  | some (_, h1) => some (.nx, s, h1)
def sRet (e : XE) : XS := fun s h => match e s h with
  | none => none
  | some (v, h1) => some (.rt v, s, h1)
def sRetN : XS := fun s h => some (.rt .non, s, h)
def sBk : XS := fun s h => some (.bk, s, h)
def sCt : XS := fun s h => some (.ct, s, h)
def sIf (c : XT) (a b : XS) : XS := fun s h => match c s h with
  | none => none
  | some (true, h1) => a s h1
  | some (false, h1) => b s h1
def sNever : XS := fun _ _ => none
def gNm (i : Nat) : XG := fun v s h => some (s.set i (some v), h)
abbrev XGs := List MV → SM → MH → Option (SM × MH)
def gsNil : XGs := fun vs s h => match vs with
  | [] => some (s, h)
  | _ => none
def gsCons (g : XG) (r : XGs) : XGs := fun vs s h => match vs with
  | v :: vs => match g v s h with
    | none => none
    | some (s1, h1) => r vs s1 h1
  | [] => none
def gTp (n : Nat) (g : XGs) : XG := fun v s h => match v with
  | .tup xs => if xs.length = n then g xs s h else none
  | _ => none
def sAsg (e : XE) (g : XG) : XS := fun s h => match e s h with
  | none => none
  | some (v, h1) => match g v s h1 with
    | none => none
    | some (s1, h2) => some (.nx, s1, h2)
abbrev sSet (i : Nat) (e : XE) : XS := sAsg e (gNm i)
/-- o[k] = v of a cell -/
def stM (h : MH) (o k v : MV) : Option MH := match o with
  | .ref n => match h[n]? with
    | some (.lst xs) => match k with
      | .int i => match ixM xs.length i with
        | some j => some (h.set n (.lst (xs.set j v)))
        | none => none
      | _ => none
    | some (.dK kvs) => match keyOf k with
      | some kk => if kvs.length < szLine then some (h.set n (.dK (putM kvs kk v))) else none
      | none => none
    | some (.dT kvs) => match k with
      | .tup ks => match keysOf ks with
        | some kk => if kvs.length < szLine then some (h.set n (.dT (putM kvs kk v))) else none
        | none => none
      | _ => none
    | _ => none
  | _ => none
/-- o[k] = e: first e, then o, then k -/
def sPut (o k e : XE) : XS := fun s h => match e s h with
  | none => none
  | some (v, h1) => match o s h1 with
    | none => none
    | some (d, h2) => match k s h2 with
      | none => none
      | some (kk, h3) => match stM h3 d kk v with
        | none => none
        | some h4 => some (.nx, s, h4)
/-- a, b = e1, e2 -/
def sPar (i j : Nat) (a b : XE) : XS := fun s h => match a s h with
  | none => none
  | some (v, h1) => match b s h1 with
    | none => none
    | some (w, h2) => some (.nx, (s.set i (some v)).set j (some w), h2)
/-- a, b, c = e1, e2, e3 -/
def sPar3 (i j l : Nat) (a b c : XE) : XS := fun s h => match a s h with
  | none => none
  | some (v, h1) => match b s h1 with
    | none => none
    | some (w, h2) => match c s h2 with
      | none => none
      | some (x, h3) => some (.nx, ((s.set i (some v)).set j (some w)).set l (some x), h3)
/-- while, at most so many turns -/
def whileGo (c : XT) (b : XS) : Nat → XS
  | 0, _, _ => none
  | n + 1, s, h => match c s h with
    | none => none
    | some (false, h1) => some (.nx, s, h1)
    | some (true, h1) => match b s h1 with
      | some (.nx, s2, h2) => whileGo c b n s2 h2
      | some (.ct, s2, h2) => whileGo c b n s2 h2
      | some (.bk, s2, h2) => some (.nx, s2, h2)
      | some (.rt v, s2, h2) => some (.rt v, s2, h2)
      | none => none
/-- what some number of turns answers -/
noncomputable def fuel {α : Type} (f : Nat → Option α) : Option α := open Classical in if hx : ∃ n r, f n = some r then some hx.choose_spec.choose else none
theorem fuel_at {α : Type} {f : Nat → Option α} {r : α} (e : fuel f = some r) : ∃ n, f n = some r := by
  unfold fuel at e
  split at e
  · rename_i hx
    cases e
    exact ⟨hx.choose, hx.choose_spec.choose_spec⟩
  · cases e
theorem fuel_of {α : Type} {f : Nat → Option α} (mono : ∀ n r, f n = some r → f (n + 1) = some r) {n : Nat} {r : α} (e : f n = some r) : fuel f = some r := by
  have up : ∀ (k m : Nat) (q : α), f m = some q → f (m + k) = some q := fun k => by
    induction k with
    | zero => exact fun _ _ h => h
    | succ k ih => exact fun m q h => mono _ _ (ih m q h)
  unfold fuel
  split
  · rename_i hx
    have h1 := up n hx.choose _ hx.choose_spec.choose_spec
    have h2 := up hx.choose n _ e
    rw [Nat.add_comm] at h1
    rw [h1] at h2
    exact h2
  · rename_i hx
    exact absurd ⟨n, r, e⟩ hx
noncomputable def sWhile (c : XT) (b : XS) : XS := fun s h => fuel fun n => whileGo c b n s h
/-- what is walked: values that stand still, or the list in a cell -/
inductive MI where
  | vals (xs : List MV) | cell (n : Nat)
abbrev XI := SM → MH → Option (MI × MH)
def forGo (g : XG) (b : XS) : List MV → XS
  | [], s, h => some (.nx, s, h)
  | x :: xs, s, h => match g x s h with
    | none => none
    | some (s1, h1) => match b s1 h1 with
      | some (.nx, s2, h2) => forGo g b xs s2 h2
      | some (.ct, s2, h2) => forGo g b xs s2 h2
      | some (.bk, s2, h2) => some (.nx, s2, h2)
      | some (.rt v, s2, h2) => some (.rt v, s2, h2)
      | none => none
def forCell (g : XG) (b : XS) (n : Nat) : Nat → Nat → XS
  | 0, _, _, _ => none
  | m + 1, i, s, h => match h[n]? with
    | some (.lst xs) => match xs[i]? with
      | none => some (.nx, s, h)
      | some x => match g x s h with
        | none => none
        | some (s1, h1) => match b s1 h1 with
          | some (.nx, s2, h2) => forCell g b n m (i + 1) s2 h2
          | some (.ct, s2, h2) => forCell g b n m (i + 1) s2 h2
          | some (.bk, s2, h2) => some (.nx, s2, h2)
          | some (.rt v, s2, h2) => some (.rt v, s2, h2)
          | none => none
    | _ => none
noncomputable def sFor (it : XI) (g : XG) (b : XS) : XS := fun s h => match it s h with
  | none => none
  | some (.vals xs, h1) => forGo g b xs s h1
  | some (.cell n, h1) => fuel fun t => forCell g b n t 0 s h1
/-- a list, a tuple that is walked -/
def iSeq (e : XE) : XI := fun s h => match e s h with
  | some (.ref n, h1) => match h1[n]? with
    | some (.lst _) => some (.cell n, h1)
    | _ => none
  | some (v, h1) => match seqOf h1 v with
    | some xs => some (.vals xs, h1)
    | none => none
  | none => none
def iTuple (e : XE) : XI := fun s h => match e s h with
  | some (.tup xs, h1) => some (.vals xs, h1)
  | _ => none
def rngM (lo : Int) (n : Nat) : List MV := (List.range n).map fun i => .int (lo + (i : Nat))
def iRange1 (e : XE) : XI := fun s h => match e s h with
  | some (.int j, h1) => if -(2 ^ 62) ≤ j ∧ j < 2 ^ 62 then some (.vals (rngM 0 j.toNat), h1) else none
  | _ => none
def iRange2 (e f : XE) : XI := fun s h => match e s h with
  | some (.int i, h1) => match f s h1 with
    | some (.int j, h2) => if (-(2 ^ 62) ≤ i ∧ i < 2 ^ 62 ∧ -(2 ^ 62) ≤ j ∧ j < 2 ^ 62) then some (.vals (rngM i (j - i).toNat), h2) else none
    | _ => none
  | _ => none
/-- a comprehension's turns: the list made so far -/
def lcGo (g : XG) (c : XT) (e : XE) : List MV → List MV → SM → MH → Option (List MV × MH)
  | acc, [], _, h => some (acc, h)
  | acc, x :: xs, s, h => match g x s h with
    | none => none
    | some (s1, h1) => match c s1 h1 with
      | none => none
      | some (false, h2) => lcGo g c e acc xs s h2
      | some (true, h2) => match e s1 h2 with
        | none => none
        | some (v, h3) => if acc.length < szLine then lcGo g c e (acc ++ [v]) xs s h3 else none
def lcCell (g : XG) (c : XT) (e : XE) (n : Nat) : Nat → Nat → List MV → SM → MH → Option (List MV × MH)
  | 0, _, _, _, _ => none
  | m + 1, i, acc, s, h => match h[n]? with
    | some (.lst xs) => match xs[i]? with
      | none => some (acc, h)
      | some x => match g x s h with
        | none => none
        | some (s1, h1) => match c s1 h1 with
          | none => none
          | some (false, h2) => lcCell g c e n m (i + 1) acc s h2
          | some (true, h2) => match e s1 h2 with
            | none => none
            | some (v, h3) => if acc.length < szLine then lcCell g c e n m (i + 1) (acc ++ [v]) s h3 else none
    | _ => none
def wipeM (s : SM) : List Nat → SM
  | [] => s
  | v :: vs => (wipeM s vs).set v none
def cYes : XT := fun _ h => some (true, h)
/-- a comprehension over values that stand still -/
noncomputable def xLc (it : XI) (g : XG) (c : XT) (e : XE) (own : List Nat) : XE := fun s h => match it s h with
  | some (.vals xs, h1) => match lcGo g c e [] xs (wipeM s own) h1 with
    | some (ys, h2) => some (.lst ys, h2)
    | none => none
  | some (.cell n, h1) => match fuel fun t => lcCell g c e n t 0 [] (wipeM s own) h1 with
    | some (ys, h2) => some (.lst ys, h2)
    | none => none
  | none => none
def sBegin (n : Nat) (vs : List MV) : SM := vs.map some ++ List.replicate (n - vs.length) none
/-- a def: how many slots, its body -/
def runDef (n : Nat) (b : XS) : Fn := fun vs h => match b (sBegin n vs) h with
  | some (.rt v, _, h1) => some (v, h1)
  | some (.nx, _, h1) => some (.non, h1)
  | _ => none
/-! ### more operations -/
/-- a list that is no script -/
def lstC (h : MH) : MV → Option (List MV)
  | .lst xs => some xs
  | .ref n => match h[n]? with
    | some (.lst xs) => some xs
    | _ => none
  | _ => none
def opCat (h : MH) (x y : MV) : Option MV := match lstC h x, lstC h y with
  | some xs, some ys => if xs.length + ys.length ≤ szLine then some (.lst (xs ++ ys)) else none
  | _, _ => none
abbrev xCat (a b : XE) : XE := xOp opCat a b
def opCatT (_ : MH) : MV → MV → Option MV
  | .tup xs, .tup ys => if xs.length + ys.length ≤ szLine then some (.tup (xs ++ ys)) else none
  | _, _ => none
/-- the first place -/
def opIndex (h : MH) (d y : MV) : Option MV := match seqOf h d with
  | some xs => if flatM y && xs.all flatM then (xs.findIdx? fun z => feqM z y).map fun j => .int (j : Nat) else none
  | none => none
/-- list(d.keys()), sorted(d.keys()) -/
def fKeys (h : MH) (v : MV) : Option MV := (dictK h v).map fun kvs => .lst (kvs.map fun kv => keyV kv.1)
def sortI (ns : List Int) : List Int := ns.mergeSort fun x y => decide (x ≤ y)
def fKeysS (h : MH) (v : MV) : Option MV := match dictK h v with
  | some kvs => (intsOf (kvs.map fun kv => keyV kv.1)).map fun ns => .lst ((sortI ns).map .int)
  | none => none
/-- sorted(xs), ints -/
def fSorted (h : MH) : List MV → Option MV
  | [v] => match seqOf h v with
    | some xs => (intsOf xs).map fun ns => .lst ((sortI ns).map .int)
    | none => none
  | _ => none
/-- {k: v, ..} -/
def xPairs : List (XE × XE) → SM → MH → Option (List (MK × MV) × MH)
  | [], _, h => some ([], h)
  | (a, b) :: r, s, h => match a s h with
    | none => none
    | some (x, h1) => match b s h1 with
      | none => none
      | some (y, h2) => match keyOf x with
        | none => none
        | some k => match xPairs r s h2 with
          | none => none
          | some (ps, h3) => some ((k, y) :: ps, h3)
def mergeM (kvs more : List (MK × MV)) : List (MK × MV) := more.foldl (fun acc kv => putM acc kv.1 kv.2) kvs
def xDisp (ps : List (XE × XE)) : XE := fun s h => match xPairs ps s h with
  | none => none
  | some (kvs, h1) => if kvs.length ≤ 15 then some (.dK (mergeM [] kvs), h1) else none
/-- d.update(e), both dicts -/
def xUpdate (o e : XE) : XE := fun s h => match o s h with
  | some (.ref n, h1) => match h1[n]? with
    | some (.dK _) => match e s h1 with
      | some (.dK more, h2) => match h2[n]? with
        | some (.dK kvs) => if kvs.length + more.length ≤ szLine then some (.non, h2.set n (.dK (mergeM kvs more))) else none
        | _ => none
      | _ => none
    | _ => none
  | _ => none
/-- == of dicts of data -/
def eqKs (xs ys : List (MK × MV)) : Bool := xs.length == ys.length && xs.all fun kv => match getK ys kv.1 with
  | some y => eqD kv.2 y
  | none => false
def dataKs (xs : List (MK × MV)) : Bool := xs.all fun kv => isD 50 kv.2
def opEqK (h : MH) (x y : MV) : Option MV := match dictK h x, dictK h y with
  | some xs, some ys => if dataKs xs && dataKs ys then some (.bl (eqKs xs ys)) else none
  | _, _ => none
def opNeK (h : MH) (x y : MV) : Option MV := match dictK h x, dictK h y with
  | some xs, some ys => if dataKs xs && dataKs ys then some (.bl (!eqKs xs ys)) else none
  | _, _ => none
/-- for k in d.keys(), d in slot n, a dict that is not written again -/
def sForK (n : Nat) (g : XG) (b : XS) : XS := fun s h => match s[n]? with
  | some (some (.dK kvs)) => forGo g b (kvs.map fun kv => keyV kv.1) s h
  | _ => none
/-- a, b, c = a list -/
def gLp (n : Nat) (g : XGs) : XG := fun v s h => match listOf h v with
  | some xs => if xs.length = n then g xs s h else none
  | none => none
/-- x is True -/
def opIsBl (_ : MH) : MV → MV → Option MV
  | .bl a, .bl b => some (.bl (a == b))
  | .non, .bl _ => some (.bl false)
  | .int _, .bl _ => some (.bl false)
  | _, _ => none
def opNotBl (_ : MH) : MV → MV → Option MV
  | .bl a, .bl b => some (.bl (!(a == b)))
  | .non, .bl _ => some (.bl true)
  | .int _, .bl _ => some (.bl true)
  | _, _ => none
/-! ### what a def's function does, told to its callers: the new cells are forgotten, what was in them is told as values -/
mutual
/-- the raw value (the first) told as the second: n cells stand already; x: the cell that is told as a fresh one, if any -/
def Frz (h : MH) (n x : Nat) : MV → MV → Prop
  | u, .non => u = .non
  | u, .bl b => u = .bl b
  | u, .int i => u = .int i
  | u, .str s => u = .str s
  | u, .scr s => u = .scr s
  | u, .ref m => u = .ref m ∧ m < n
  | u, .tup ys => ∃ xs, u = .tup xs ∧ Frzs h n x xs ys
  | u, .lst ys => (∃ xs, u = .lst xs ∧ Frzs h n x xs ys) ∨ ∃ m xs, u = .ref m ∧ n ≤ m ∧ m ≠ x ∧ h[m]? = some (.lst xs) ∧ Frzs h n x xs ys
  | u, .dK ys => (∃ xs, u = .dK xs ∧ Frzk h n x xs ys) ∨ ∃ m xs, u = .ref m ∧ n ≤ m ∧ m ≠ x ∧ h[m]? = some (.dK xs) ∧ Frzk h n x xs ys
  | u, .dT ys => (∃ xs, u = .dT xs ∧ Frzt h n x xs ys) ∨ ∃ m xs, u = .ref m ∧ n ≤ m ∧ m ≠ x ∧ h[m]? = some (.dT xs) ∧ Frzt h n x xs ys
def Frzs (h : MH) (n x : Nat) : List MV → List MV → Prop
  | us, [] => us = []
  | us, y :: ys => ∃ u t, us = u :: t ∧ Frz h n x u y ∧ Frzs h n x t ys
def Frzk (h : MH) (n x : Nat) : List (MK × MV) → List (MK × MV) → Prop
  | us, [] => us = []
  | us, (k, y) :: ys => ∃ u t, us = (k, u) :: t ∧ Frz h n x u y ∧ Frzk h n x t ys
def Frzt (h : MH) (n x : Nat) : List (List MK × MV) → List (List MK × MV) → Prop
  | us, [] => us = []
  | us, (k, y) :: ys => ∃ u t, us = (k, u) :: t ∧ Frz h n x u y ∧ Frzt h n x t ys
end
def CFrz (h : MH) (n x : Nat) : MC → MC → Prop
  | .lst us, .lst ys => Frzs h n x us ys
  | .dK us, .dK ys => Frzk h n x us ys
  | .dT us, .dT ys => Frzt h n x us ys
  | .lkK us, .lkK ys => Frzk h n x us ys
  | .lkT us, .lkT ys => Frzt h n x us ys
  | _, _ => False
/-- the cells that stood, behind the call -/
def CelOK (h h2 h' : MH) (x : Nat) : Prop := h'.length = h.length ∧ h.length ≤ h2.length ∧ ∀ (i : Nat) (c : MC), h'[i]? = some c → (h2[i]? = some c ∧ h[i]? = some c) ∨ ∃ c2, h2[i]? = some c2 ∧ CFrz h2 h.length x c2 c
/-- g may be told as: at these arguments it hands back v and leaves the cells h' -/
def FrzOK (g : Fn) (args : List MV) (h : MH) (v : MV) (h' : MH) : Prop := ∃ v2 h2, g args h = some (v2, h2) ∧ CelOK h h2 h' h2.length ∧ Frz h2 h.length h2.length v2 v
/-- .. a fresh list or dict -/
def FrzF (g : Fn) (args : List MV) (h : MH) (v : MV) (h' : MH) : Prop := ∃ m c h2, g args h = some (.ref m, h2) ∧ h.length ≤ m ∧ h2[m]? = some c ∧ CelOK h h2 h' m ∧ match c, v with
  | .lst us, .lst ys => Frzs h2 h.length m us ys
  | .dK us, .dK ys => Frzk h2 h.length m us ys
  | .dT us, .dT ys => Frzt h2 h.length m us ys
  | _, _ => False
end Ew
end

section
set_option Elab.async false
set_option linter.all false
set_option maxRecDepth 100000
set_option maxHeartbeats 4000000
/-! EwB: the hand layer's readings of the small machine EwS. -/
namespace Ew
open PySem PySem.Spec PyProof.Rows L2

/-! ### what a value of the machine stands for -/
/-- r: the cells' addresses; w: addresses that are withheld (lists that are being made) -/
def Out (r w : List Addr) (a : Addr) : Prop := a ∉ r ∧ a ∉ w
def TupAt (r w : List Addr) (H : Hp) (a : Addr) (us : List V) : Prop := Out r w a ∧ H a = some (.tup us)
/-- the script, should it stand in the written part -/
def KScr (K : PySem.W.Frag) (a : Addr) (us : List V) : Prop := ∃ (o : Obj) (its : Array Value) (n : Nat), K.lookup a = some o ∧ o.cls = .type "list" ∧ o.dict = none ∧ o.data = .seq its n ∧ its.size ≤ sizeLine ∧ Vals us its.toList
section
variable (K : PySem.W.Frag)
mutual
def VR (r w : List Addr) (H : Hp) : MV → V → Prop
  | .non, u => u = .non
  | .bl b, u => u = .bl b
  | .int i, u => u = .int i
  | .str x, u => u = .str x
  | .ref n, u => ∃ a, u = .ref a ∧ r[n]? = some a
  | .tup xs, u => ∃ a us, u = .ref a ∧ TupAt r w H a us ∧ VRs r w H xs us
  | .lst xs, u => ∃ a us, u = .ref a ∧ Out r w a ∧ H a = some (.lst us) ∧ VRs r w H xs us
  | .scr xs, u => ∃ a, u = .ref a ∧ ((Out r w a ∧ ∃ o, H a = some (.frz o (.lst (xs.map V.int)))) ∨ KScr K a (xs.map V.int))
  | .dK kvs, u => ∃ a us, u = .ref a ∧ Out r w a ∧ Rd H a (.dK us) ∧ VRk r w H kvs us
  | .dT kvs, u => ∃ a us, u = .ref a ∧ Out r w a ∧ Rd H a (.dT us) ∧ VRt r w H kvs us
def VRs (r w : List Addr) (H : Hp) : List MV → List V → Prop
  | [], us => us = []
  | x :: xs, us => ∃ u t, us = u :: t ∧ VR r w H x u ∧ VRs r w H xs t
def VRk (r w : List Addr) (H : Hp) : List (MK × MV) → List (Key × V) → Prop
  | [], us => us = []
  | (k, x) :: xs, us => ∃ u t, us = (k, u) :: t ∧ VR r w H x u ∧ VRk r w H xs t
def VRt (r w : List Addr) (H : Hp) : List (List MK × MV) → List (List Key × V) → Prop
  | [], us => us = []
  | (k, x) :: xs, us => ∃ u t, us = (k, u) :: t ∧ VR r w H x u ∧ VRt r w H xs t
end
/-- what stands in a cell -/
def CRel (r w : List Addr) (H : Hp) (a : Addr) : MC → Prop
  | .lst xs => ∃ us, H a = some (.lst us) ∧ VRs K r w H xs us
  | .dK kvs => ∃ us, H a = some (.dK us) ∧ VRk K r w H kvs us
  | .dT kvs => ∃ us, H a = some (.dT us) ∧ VRt K r w H kvs us
  | .lkK kvs => ∃ o us, H a = some (.frz o (.dK us)) ∧ VRk K r w H kvs us
  | .lkT kvs => ∃ o us, H a = some (.frz o (.dT us)) ∧ VRt K r w H kvs us
structure Rel (r w : List Addr) (h : MH) (H : Hp) : Prop where
  len : r.length = h.length
  nd : r.Nodup
  at_ : ∀ (n : Nat) (a : Addr) (c : MC), r[n]? = some a → h[n]? = some c → CRel K r w H a c
  wh : ∀ d ∈ w, d ∉ r ∧ ∃ o, H d = some o
/-- the slots -/
def SR (r w : List Addr) (H : Hp) (s : SM) (z : L2.St) : Prop := s.length = z.length ∧ ∀ (i : Nat) (v : MV), s[i]? = some (some v) → ∃ u, z[i]? = some (some u) ∧ VR K r w H v u
end
/-- o still stands at a, up to a dict's lock -/
def Kp (H' : Hp) (a : Addr) (o : HO) : Prop := H' a = some o ∨ (∃ od kvs, o = .dK kvs ∧ H' a = some (.frz od (.dK kvs))) ∨ (∃ od kvs, o = .frz od (.dK kvs) ∧ H' a = some (.dK kvs)) ∨
  (∃ od kvs, o = .dT kvs ∧ H' a = some (.frz od (.dT kvs))) ∨ (∃ od kvs, o = .frz od (.dT kvs) ∧ H' a = some (.dT kvs))
theorem Kp.lst {H' : Hp} {a : Addr} {xs : List V} (h : Kp H' a (.lst xs)) : H' a = some (.lst xs) := by
  rcases h with h | ⟨_, _, e, _⟩ | ⟨_, _, e, _⟩ | ⟨_, _, e, _⟩ | ⟨_, _, e, _⟩
  · exact h
  all_goals cases e
theorem Kp.tup {H' : Hp} {a : Addr} {xs : List V} (h : Kp H' a (.tup xs)) : H' a = some (.tup xs) := by
  rcases h with h | ⟨_, _, e, _⟩ | ⟨_, _, e, _⟩ | ⟨_, _, e, _⟩ | ⟨_, _, e, _⟩
  · exact h
  all_goals cases e
theorem Kp.scr {H' : Hp} {a : Addr} {o : Obj} {xs : List V} (h : Kp H' a (.frz o (.lst xs))) : H' a = some (.frz o (.lst xs)) := by
  rcases h with h | ⟨_, _, e, _⟩ | ⟨_, _, e, _⟩ | ⟨_, _, e, _⟩ | ⟨_, _, e, _⟩
  · exact h
  all_goals cases e
theorem Kp.dK {H H' : Hp} {a : Addr} {kvs : List (Key × V)} (h : ∀ o, H a = some o → Kp H' a o) (r : Rd H a (.dK kvs)) : Rd H' a (.dK kvs) := by
  rcases r with r | ⟨o, r⟩
  · rcases h _ r with h | ⟨od, _, e, h⟩ | ⟨_, _, e, _⟩ | ⟨_, _, e, _⟩ | ⟨_, _, e, _⟩
    · exact .inl h
    · cases e; exact .inr ⟨od, h⟩
    all_goals cases e
  · rcases h _ r with h | ⟨od, _, e, h⟩ | ⟨_, _, e, h⟩ | ⟨_, _, e, _⟩ | ⟨_, _, e, _⟩
    · exact .inr ⟨o, h⟩
    · cases e
    · cases e; exact .inl h
    all_goals cases e
theorem Kp.dT {H H' : Hp} {a : Addr} {kvs : List (List Key × V)} (h : ∀ o, H a = some o → Kp H' a o) (r : Rd H a (.dT kvs)) : Rd H' a (.dT kvs) := by
  rcases r with r | ⟨o, r⟩
  · rcases h _ r with h | ⟨_, _, e, _⟩ | ⟨_, _, e, _⟩ | ⟨od, _, e, h⟩ | ⟨_, _, e, _⟩
    · exact .inl h
    · cases e
    · cases e
    · cases e; exact .inr ⟨od, h⟩
    · cases e
  · rcases h _ r with h | ⟨_, _, e, _⟩ | ⟨_, _, e, _⟩ | ⟨_, _, e, _⟩ | ⟨_, _, e, h⟩
    · exact .inr ⟨o, h⟩
    · cases e
    · cases e
    · cases e
    · cases e; exact .inl h
/-- what values lean on is kept -/
structure Stp (r w : List Addr) (H : Hp) (r' w' : List Addr) (H' : Hp) : Prop where
  ix : ∀ (n : Nat) (a : Addr), r[n]? = some a → r'[n]? = some a
  keep : ∀ a o, Out r w a → H a = some o → Out r' w' a ∧ Kp H' a o
/-- what is kept from one state to a later one: the cells get more, by new addresses; what is no cell stays -/
structure Fwd (r : List Addr) (H : Hp) (r' : List Addr) (H' : Hp) : Prop where
  ext : ∃ ps, r' = r ++ ps ∧ ∀ p ∈ ps, H p = none
  keep : ∀ a o, a ∉ r → H a = some o → H' a = some o
  frz : ∀ a o u, H a = some (.frz o u) → H' a = some (.frz o u)
theorem Fwd.refl (r : List Addr) (H : Hp) : Fwd r H r H := ⟨⟨[], by simp, fun _ h => nomatch h⟩, fun _ _ _ h => h, fun _ _ _ h => h⟩
theorem Fwd.nin {r r' : List Addr} {H H' : Hp} (F : Fwd r H r' H') {a : Addr} {o : HO} (h : a ∉ r) (e : H a = some o) : a ∉ r' := by
  obtain ⟨ps, rfl, hp⟩ := F.ext
  intro hm
  rcases List.mem_append.mp hm with hm | hm
  · exact h hm
  · rw [hp a hm] at e; cases e
theorem Fwd.at_ {r r' : List Addr} {H H' : Hp} (F : Fwd r H r' H') {n : Nat} {a : Addr} (h : r[n]? = some a) : r'[n]? = some a := by
  obtain ⟨ps, rfl, hp⟩ := F.ext
  rw [List.getElem?_append_left (by have := (List.getElem?_eq_some_iff.mp h).1; exact this)]
  exact h
theorem Fwd.stp {r r' w : List Addr} {H H' : Hp} (F : Fwd r H r' H') : Stp r w H r' w H' := ⟨fun n a h => F.at_ h, fun a o n e => ⟨⟨F.nin n.1 e, n.2⟩, .inl (F.keep a o n.1 e)⟩⟩
section
variable {K : PySem.W.Frag} {r r' r2 w w' : List Addr} {H H' H2 : Hp}
theorem TupAt.map (F : Stp r w H r' w' H') {a : Addr} {us : List V} (h : TupAt r w H a us) : TupAt r' w' H' a us := ⟨(F.keep _ _ h.1 h.2).1, (F.keep _ _ h.1 h.2).2.tup⟩
theorem TupAt.sq {K : PySem.W.Frag} {a : Addr} {us : List V} (h : TupAt r w H a us) : SqT K H a us := .inl (.inl h.2)
mutual
theorem VR.map (F : Stp r w H r' w' H') : ∀ (v : MV) (u : V), VR K r w H v u → VR K r' w' H' v u
  | .non, u, h => by simpa [VR] using h
  | .bl b, u, h => by simpa [VR] using h
  | .int i, u, h => by simpa [VR] using h
  | .str x, u, h => by simpa [VR] using h
  | .ref n, u, h => by
    simp only [VR] at h ⊢
    obtain ⟨a, e, h⟩ := h
    exact ⟨a, e, F.ix _ _ h⟩
  | .tup xs, u, h => by
    simp only [VR] at h ⊢
    obtain ⟨a, us, e, h, q⟩ := h
    exact ⟨a, us, e, h.map F, VRs.map F xs us q⟩
  | .lst xs, u, h => by
    simp only [VR] at h ⊢
    obtain ⟨a, us, e, n, h, q⟩ := h
    exact ⟨a, us, e, (F.keep _ _ n h).1, (F.keep _ _ n h).2.lst, VRs.map F xs us q⟩
  | .scr xs, u, h => by
    simp only [VR] at h ⊢
    obtain ⟨a, e, h⟩ := h
    rcases h with ⟨n, o, h⟩ | h
    · exact ⟨a, e, .inl ⟨(F.keep _ _ n h).1, o, (F.keep _ _ n h).2.scr⟩⟩
    · exact ⟨a, e, .inr h⟩
  | .dK xs, u, h => by
    simp only [VR] at h ⊢
    obtain ⟨a, us, e, n, h, q⟩ := h
    have no : Out r' w' a := by
      rcases h with h | ⟨o, h⟩
      · exact (F.keep _ _ n h).1
      · exact (F.keep _ _ n h).1
    exact ⟨a, us, e, no, Kp.dK (fun o z => (F.keep _ _ n z).2) h, VRk.map F xs us q⟩
  | .dT xs, u, h => by
    simp only [VR] at h ⊢
    obtain ⟨a, us, e, n, h, q⟩ := h
    have no : Out r' w' a := by
      rcases h with h | ⟨o, h⟩
      · exact (F.keep _ _ n h).1
      · exact (F.keep _ _ n h).1
    exact ⟨a, us, e, no, Kp.dT (fun o z => (F.keep _ _ n z).2) h, VRt.map F xs us q⟩
theorem VRs.map (F : Stp r w H r' w' H') : ∀ (v : List MV) (u : List V), VRs K r w H v u → VRs K r' w' H' v u
  | [], u, h => by simpa [VRs] using h
  | x :: xs, u, h => by
    simp only [VRs] at h ⊢
    obtain ⟨a, t, e, h, q⟩ := h
    exact ⟨a, t, e, VR.map F x a h, VRs.map F xs t q⟩
theorem VRk.map (F : Stp r w H r' w' H') : ∀ (v : List (MK × MV)) (u : List (Key × V)), VRk K r w H v u → VRk K r' w' H' v u
  | [], u, h => by simpa [VRk] using h
  | (k, x) :: xs, u, h => by
    simp only [VRk] at h ⊢
    obtain ⟨a, t, e, h, q⟩ := h
    exact ⟨a, t, e, VR.map F x a h, VRk.map F xs t q⟩
theorem VRt.map (F : Stp r w H r' w' H') : ∀ (v : List (List MK × MV)) (u : List (List Key × V)), VRt K r w H v u → VRt K r' w' H' v u
  | [], u, h => by simpa [VRt] using h
  | (k, x) :: xs, u, h => by
    simp only [VRt] at h ⊢
    obtain ⟨a, t, e, h, q⟩ := h
    exact ⟨a, t, e, VR.map F x a h, VRt.map F xs t q⟩
end
theorem VR.fwd (F : Fwd r H r' H') (v : MV) (u : V) (h : VR K r w H v u) : VR K r' w H' v u := VR.map F.stp v u h
theorem VRs.fwd (F : Fwd r H r' H') (v : List MV) (u : List V) (h : VRs K r w H v u) : VRs K r' w H' v u := VRs.map F.stp v u h
theorem CRel.map (F : Stp r w H r' w' H') {a : Addr} {c : MC} (e : H' a = H a) (h : CRel K r w H a c) : CRel K r' w' H' a c := by
  cases c <;> simp only [CRel] at h ⊢
  · obtain ⟨us, h, q⟩ := h; exact ⟨us, e.trans h, VRs.map F _ _ q⟩
  · obtain ⟨us, h, q⟩ := h; exact ⟨us, e.trans h, VRk.map F _ _ q⟩
  · obtain ⟨us, h, q⟩ := h; exact ⟨us, e.trans h, VRt.map F _ _ q⟩
  · obtain ⟨o, us, h, q⟩ := h; exact ⟨o, us, e.trans h, VRk.map F _ _ q⟩
  · obtain ⟨o, us, h, q⟩ := h; exact ⟨o, us, e.trans h, VRt.map F _ _ q⟩
theorem CRel.there {a : Addr} {c : MC} (h : CRel K r w H a c) : ∃ o, H a = some o := by
  cases c <;> simp only [CRel] at h
  · obtain ⟨us, z, _⟩ := h; exact ⟨_, z⟩
  · obtain ⟨us, z, _⟩ := h; exact ⟨_, z⟩
  · obtain ⟨us, z, _⟩ := h; exact ⟨_, z⟩
  · obtain ⟨o, us, z, _⟩ := h; exact ⟨_, z⟩
  · obtain ⟨o, us, z, _⟩ := h; exact ⟨_, z⟩
theorem SR.map (F : Stp r w H r' w' H') {s : SM} {z : L2.St} (h : SR K r w H s z) : SR K r' w' H' s z :=
  ⟨h.1, fun i v e => let ⟨u, e1, e2⟩ := h.2 i v e; ⟨u, e1, VR.map F v u e2⟩⟩
theorem SR.fwd (F : Fwd r H r' H') {s : SM} {z : L2.St} (h : SR K r w H s z) : SR K r' w H' s z := h.map F.stp
theorem Rel.there {h : MH} (R : Rel K r w h H) {a : Addr} (hm : a ∈ r) : ∃ o, H a = some o := by
  obtain ⟨n, hn⟩ := List.getElem?_of_mem hm
  have hl : n < h.length := by rw [← R.len]; exact (List.getElem?_eq_some_iff.mp hn).1
  exact (R.at_ n a h[n] hn (List.getElem?_eq_getElem hl)).there
theorem Rel.nin {h : MH} (R : Rel K r w h H) {p : Addr} (hp : H p = none) : p ∉ r := fun hm => by
  obtain ⟨u, e⟩ := R.there hm
  rw [hp] at e; cases e
theorem Rel.ninw {h : MH} (R : Rel K r w h H) {p : Addr} (hp : H p = none) : p ∉ w := fun hm => by
  obtain ⟨_, u, e⟩ := R.wh p hm
  rw [hp] at e; cases e
theorem Fwd.trans (F : Fwd r H r' H') (G : Fwd r' H' r2 H2) (hr : ∀ p, H' p = none → H p = none) : Fwd r H r2 H2 := by
  obtain ⟨ps, rfl, hp⟩ := F.ext
  obtain ⟨qs, rfl, hq⟩ := G.ext
  refine ⟨⟨ps ++ qs, by simp, fun p hm => ?_⟩, fun a o n e => G.keep a o (F.nin n e) (F.keep a o n e), fun a o u e => G.frz a o u (F.frz a o u e)⟩
  rcases List.mem_append.mp hm with hm | hm
  · exact hp p hm
  · exact hr p (hq p hm)
/-- where the cells stand, what is free now was free -/
theorem Fwd.free {h' : MH} (F : Fwd r H r' H') (R' : Rel K r' w h' H') (p : Addr) (e : H' p = none) : H p = none := by
  cases q : H p with
  | none => rfl
  | some o =>
    by_cases hm : p ∈ r
    · obtain ⟨n, hn⟩ := List.getElem?_of_mem hm
      obtain ⟨u, z⟩ := R'.there (List.mem_of_getElem? (F.at_ hn))
      rw [e] at z; cases z
    · rw [F.keep p o hm q] at e; cases e
theorem Fwd.tr {h' : MH} (F : Fwd r H r' H') (R' : Rel K r' w h' H') (G : Fwd r' H' r2 H2) : Fwd r H r2 H2 := F.trans G (F.free R')
/-- a new object, no cell -/
theorem Fwd.new (r : List Addr) {p : Addr} {o : HO} (hp : H p = none) : Fwd r H r (upd H p o) :=
  ⟨⟨[], by simp, fun _ h => nomatch h⟩, fun a u _ e => by rw [upd_ne (ne_of_none e hp)]; exact e, fun a o u e => by rw [upd_ne (ne_of_none e hp)]; exact e⟩
theorem Rel.new {h : MH} (R : Rel K r w h H) {p : Addr} {o : HO} (hp : H p = none) : Rel K r w h (upd H p o) :=
  ⟨R.len, R.nd, fun n a c hn hc => (R.at_ n a c hn hc).map (Fwd.new r hp).stp (by
    obtain ⟨u, e⟩ := R.there (List.mem_of_getElem? hn)
    exact upd_ne (ne_of_none e hp)), fun d hd => by
    obtain ⟨n, u, e⟩ := R.wh d hd
    exact ⟨n, u, (upd_ne (ne_of_none e hp)).trans e⟩⟩
/-- a new object that is withheld -/
theorem Stp.hold {h : MH} (R : Rel K r w h H) {p : Addr} {o : HO} (hp : H p = none) : Stp r w H r (p :: w) (upd H p o) :=
  ⟨fun _ _ h => h, fun a u n e => by
    have ne : a ≠ p := ne_of_none e hp
    exact ⟨⟨n.1, fun hm => by rcases List.mem_cons.mp hm with z | z; exact ne z; exact n.2 z⟩, .inl ((upd_ne ne).trans e)⟩⟩
theorem Rel.hold {h : MH} (R : Rel K r w h H) {p : Addr} {o : HO} (hp : H p = none) : Rel K r (p :: w) h (upd H p o) :=
  ⟨R.len, R.nd, fun n a c hn hc => (R.at_ n a c hn hc).map (Stp.hold R hp) (by
    obtain ⟨u, e⟩ := R.there (List.mem_of_getElem? hn)
    exact upd_ne (ne_of_none e hp)), fun d hd => by
    rcases List.mem_cons.mp hd with rfl | hd
    · exact ⟨R.nin hp, o, upd_same⟩
    · obtain ⟨n, u, e⟩ := R.wh d hd
      exact ⟨n, u, (upd_ne (ne_of_none e hp)).trans e⟩⟩
/-- what was withheld is let go -/
theorem Stp.drop {p : Addr} : Stp r (p :: w) H r w H := ⟨fun _ _ h => h, fun a o n e => ⟨⟨n.1, fun z => n.2 (List.mem_cons_of_mem _ z)⟩, .inl e⟩⟩
theorem Rel.drop {h : MH} {p : Addr} (R : Rel K r (p :: w) h H) : Rel K r w h H :=
  ⟨R.len, R.nd, fun n a c hn hc => (R.at_ n a c hn hc).map Stp.drop rfl, fun d hd => R.wh d (List.mem_cons_of_mem _ hd)⟩
/-- what was withheld becomes a cell -/
theorem Stp.cell {p : Addr} : Stp r (p :: w) H (r ++ [p]) w H :=
  ⟨fun n a h => by rw [List.getElem?_append_left (List.getElem?_eq_some_iff.mp h).1]; exact h, fun a o n e => ⟨⟨fun hm => by
    rcases List.mem_append.mp hm with z | z
    · exact n.1 z
    · exact n.2 (by rw [List.mem_singleton.mp z]; exact List.mem_cons_self), fun z => n.2 (List.mem_cons_of_mem _ z)⟩, .inl e⟩⟩
theorem Rel.cell {h : MH} {p : Addr} {c : MC} (R : Rel K r (p :: w) h H) (np : p ∉ w) (hc : CRel K r (p :: w) H p c) : Rel K (r ++ [p]) w (h ++ [c]) H := by
  have hpr : p ∉ r := (R.wh p List.mem_cons_self).1
  refine ⟨by simp [R.len], ?_, fun n a c' hn hc' => ?_, fun d hd => ?_⟩
  · exact List.nodup_append.mpr ⟨R.nd, by simp, fun a ha b hb => by rw [List.mem_singleton.mp hb]; rintro rfl; exact hpr ha⟩
  · by_cases hl : n < r.length
    · rw [List.getElem?_append_left hl] at hn
      rw [List.getElem?_append_left (by rw [← R.len]; exact hl)] at hc'
      exact (R.at_ n a c' hn hc').map Stp.cell rfl
    · have e1 : n = r.length := by
        have := (List.getElem?_eq_some_iff.mp hn).1
        rw [List.length_append] at this
        simp at this
        omega
      subst e1
      rw [List.getElem?_append_right (Nat.le_refl _)] at hn
      rw [R.len, List.getElem?_append_right (Nat.le_refl _)] at hc'
      simp at hn hc'
      subst hn hc'
      exact hc.map Stp.cell rfl
  · obtain ⟨n, u⟩ := R.wh d (List.mem_cons_of_mem _ hd)
    refine ⟨fun hm => ?_, u⟩
    rcases List.mem_append.mp hm with z | z
    · exact n z
    · exact np (by rw [← List.mem_singleton.mp z]; exact hd)
/-- a cell is written -/
theorem Fwd.put {n : Nat} {a : Addr} (hn : r[n]? = some a) (o : HO) (nf : ∀ ob u, H a ≠ some (.frz ob u)) : Fwd r H r (upd H a o) :=
  ⟨⟨[], by simp, fun _ h => nomatch h⟩, fun b u nb e => by
    rw [upd_ne (fun z => nb (by rw [z]; exact List.mem_of_getElem? hn))]; exact e, fun b ob u e => by
    rw [upd_ne (fun z => nf ob u (by rw [← z]; exact e))]; exact e⟩
theorem Stp.put {n : Nat} {a : Addr} (hn : r[n]? = some a) (o : HO) : Stp r w H r w (upd H a o) :=
  ⟨fun _ _ h => h, fun b u nb e => ⟨nb, .inl (by rw [upd_ne (fun z => nb.1 (by rw [z]; exact List.mem_of_getElem? hn))]; exact e)⟩⟩
theorem Rel.put {h : MH} (R : Rel K r w h H) {n : Nat} {a : Addr} {o : HO} {c : MC} (hn : r[n]? = some a) (hc : CRel K r w (upd H a o) a c) : Rel K r w (h.set n c) (upd H a o) := by
  refine ⟨by simp [R.len], R.nd, fun m b c' hm hc' => ?_, fun d hd => ?_⟩
  · by_cases e : m = n
    · subst e
      rw [hn] at hm
      have hl : m < h.length := by rw [← R.len]; exact (List.getElem?_eq_some_iff.mp hn).1
      rw [List.getElem?_set_self hl] at hc'
      cases hm; cases hc'
      exact hc
    · rw [List.getElem?_set_ne (Ne.symm e)] at hc'
      refine (R.at_ m b c' hm hc').map (Stp.put hn o) (upd_ne fun z => e ?_)
      subst z
      exact (List.getElem?_inj (List.getElem?_eq_some_iff.mp hm).1 R.nd).mp (hm.trans hn.symm)
  · obtain ⟨n', u, e⟩ := R.wh d hd
    exact ⟨n', u, (upd_ne fun z => n' (by rw [z]; exact List.mem_of_getElem? hn)).trans e⟩
theorem VRs.length : ∀ {xs : List MV} {us : List V}, VRs K r w H xs us → xs.length = us.length
  | [], us, h => by simp only [VRs] at h; subst h; rfl
  | x :: xs, us, h => by
    simp only [VRs] at h
    obtain ⟨u, t, rfl, _, q⟩ := h
    simp [VRs.length q]
theorem VRs.get : ∀ {xs : List MV} {us : List V} {i : Nat} {x : MV}, VRs K r w H xs us → xs[i]? = some x → ∃ u, us[i]? = some u ∧ VR K r w H x u
  | [], us, i, x, h, e => by simp at e
  | y :: xs, us, 0, x, h, e => by
    simp only [VRs] at h
    obtain ⟨u, t, rfl, q, _⟩ := h
    simp at e; subst e
    exact ⟨u, rfl, q⟩
  | y :: xs, us, i + 1, x, h, e => by
    simp only [VRs] at h
    obtain ⟨u, t, rfl, _, q⟩ := h
    obtain ⟨w, e1, e2⟩ := VRs.get (i := i) q (by simpa using e)
    exact ⟨w, by simpa using e1, e2⟩
theorem VRs.back : ∀ {xs : List MV} {us : List V} {i : Nat} {u : V}, VRs K r w H xs us → us[i]? = some u → ∃ x, xs[i]? = some x ∧ VR K r w H x u
  | [], us, i, x, h, e => by simp only [VRs] at h; subst h; simp at e
  | y :: xs, us, 0, x, h, e => by
    simp only [VRs] at h
    obtain ⟨u, t, rfl, q, _⟩ := h
    simp at e; subst e
    exact ⟨y, rfl, q⟩
  | y :: xs, us, i + 1, x, h, e => by
    simp only [VRs] at h
    obtain ⟨u, t, rfl, _, q⟩ := h
    obtain ⟨w, e1, e2⟩ := VRs.back (i := i) q (by simpa using e)
    exact ⟨w, by simpa using e1, e2⟩
theorem VRs.append : ∀ {xs ys : List MV} {us ws : List V}, VRs K r w H xs us → VRs K r w H ys ws → VRs K r w H (xs ++ ys) (us ++ ws)
  | [], ys, us, ws, h, q => by simp only [VRs] at h; subst h; exact q
  | x :: xs, ys, us, ws, h, q => by
    simp only [VRs] at h
    obtain ⟨u, t, rfl, h1, h2⟩ := h
    simp only [List.cons_append, VRs]
    exact ⟨u, t ++ ws, rfl, h1, VRs.append h2 q⟩
theorem VRs.one {x : MV} {u : V} (h : VR K r w H x u) : VRs K r w H [x] [u] := by
  simp only [VRs]
  exact ⟨u, [], rfl, h, rfl⟩
theorem VRs.drop : ∀ {xs : List MV} {us : List V} (n : Nat), VRs K r w H xs us → VRs K r w H (xs.drop n) (us.drop n)
  | _, _, 0, h => h
  | [], us, n + 1, h => by simp only [VRs] at h; subst h; simp [VRs]
  | x :: xs, us, n + 1, h => by
    simp only [VRs] at h
    obtain ⟨u, t, rfl, _, q⟩ := h
    exact VRs.drop n q
theorem VRs.take : ∀ {xs : List MV} {us : List V} (n : Nat), VRs K r w H xs us → VRs K r w H (xs.take n) (us.take n)
  | _, _, 0, h => by simp [VRs]
  | [], us, n + 1, h => by simp only [VRs] at h; subst h; simp [VRs]
  | x :: xs, us, n + 1, h => by
    simp only [VRs] at h
    obtain ⟨u, t, rfl, h1, q⟩ := h
    simp only [List.take_succ_cons, VRs]
    exact ⟨u, t.take n, rfl, h1, VRs.take n q⟩
theorem VRs.eraseIdx : ∀ {xs : List MV} {us : List V} (n : Nat), VRs K r w H xs us → VRs K r w H (xs.eraseIdx n) (us.eraseIdx n)
  | [], us, n, h => by simp only [VRs] at h; subst h; simp [VRs]
  | x :: xs, us, 0, h => by
    simp only [VRs] at h
    obtain ⟨u, t, rfl, _, q⟩ := h
    simpa using q
  | x :: xs, us, n + 1, h => by
    simp only [VRs] at h
    obtain ⟨u, t, rfl, h1, q⟩ := h
    simp only [List.eraseIdx_cons_succ, VRs]
    exact ⟨u, t.eraseIdx n, rfl, h1, VRs.eraseIdx n q⟩
theorem VRs.set : ∀ {xs : List MV} {us : List V} (n : Nat) {x : MV} {u : V}, VRs K r w H xs us → VR K r w H x u → VRs K r w H (xs.set n x) (us.set n u)
  | [], us, n, _, _, h, _ => by simp only [VRs] at h; subst h; simp [VRs]
  | y :: xs, us, 0, x, u, h, hx => by
    simp only [VRs] at h
    obtain ⟨w, t, rfl, _, q⟩ := h
    simp only [List.set_cons_zero, VRs]
    exact ⟨u, t, rfl, hx, q⟩
  | y :: xs, us, n + 1, x, u, h, hx => by
    simp only [VRs] at h
    obtain ⟨w, t, rfl, h1, q⟩ := h
    simp only [List.set_cons_succ, VRs]
    exact ⟨w, t.set n u, rfl, h1, VRs.set n q hx⟩
theorem VRs.dropLast {xs : List MV} {us : List V} (h : VRs K r w H xs us) : VRs K r w H xs.dropLast us.dropLast := by
  rw [List.dropLast_eq_take, List.dropLast_eq_take, ← VRs.length h]
  exact VRs.take _ h
theorem VRs.ints : ∀ (ns : List Int), VRs K r w H (ns.map MV.int) (ns.map V.int)
  | [] => by simp [VRs]
  | n :: ns => by
    simp only [List.map_cons, VRs]
    exact ⟨_, _, rfl, by simp [VR], VRs.ints ns⟩
theorem VRs.at_ {xs : List MV} {us : List V} {i : Int} {x : MV} (h : VRs K r w H xs us) (e : atM xs i = some x) : ∃ u, atI us i = some u ∧ VR K r w H x u := by
  unfold atM at e
  cases q : ixM xs.length i with
  | none => simp [q] at e
  | some j =>
    simp only [q, Option.bind_some] at e
    obtain ⟨u, e1, e2⟩ := VRs.get h e
    refine ⟨u, ?_, e2⟩
    unfold atI
    rw [← VRs.length h]
    show (ixM xs.length i).bind _ = _
    rw [q]
    exact e1
theorem VRk.length : ∀ {xs : List (MK × MV)} {us : List (Key × V)}, VRk K r w H xs us → xs.length = us.length
  | [], us, h => by simp only [VRk] at h; subst h; rfl
  | (k, x) :: xs, us, h => by
    simp only [VRk] at h
    obtain ⟨u, t, rfl, _, q⟩ := h
    simp [VRk.length q]
theorem VRt.length : ∀ {xs : List (List MK × MV)} {us : List (List Key × V)}, VRt K r w H xs us → xs.length = us.length
  | [], us, h => by simp only [VRt] at h; subst h; rfl
  | (k, x) :: xs, us, h => by
    simp only [VRt] at h
    obtain ⟨u, t, rfl, _, q⟩ := h
    simp [VRt.length q]
theorem VRk.keys : ∀ {xs : List (MK × MV)} {us : List (Key × V)}, VRk K r w H xs us → us.map (·.1) = xs.map (·.1)
  | [], us, h => by simp only [VRk] at h; subst h; rfl
  | (k, x) :: xs, us, h => by
    simp only [VRk] at h
    obtain ⟨u, t, rfl, _, q⟩ := h
    simp [VRk.keys q]
theorem VRt.keys : ∀ {xs : List (List MK × MV)} {us : List (List Key × V)}, VRt K r w H xs us → us.map (·.1) = xs.map (·.1)
  | [], us, h => by simp only [VRt] at h; subst h; rfl
  | (k, x) :: xs, us, h => by
    simp only [VRt] at h
    obtain ⟨u, t, rfl, _, q⟩ := h
    simp [VRt.keys q]
/-- what a dict has at a key -/
theorem VRk.get (k : MK) : ∀ {xs : List (MK × MV)} {us : List (Key × V)}, VRk K r w H xs us → (getK xs k = none ∧ valV us k = none) ∨ ∃ x u, getK xs k = some x ∧ valV us k = some u ∧ VR K r w H x u
  | [], us, h => by simp only [VRk] at h; subst h; exact .inl ⟨rfl, rfl⟩
  | (k', x) :: xs, us, h => by
    simp only [VRk] at h
    obtain ⟨u, t, rfl, q1, q⟩ := h
    by_cases e : k' = k
    · subst e
      exact .inr ⟨x, u, by simp [getK], by simp [valV], q1⟩
    · have ih := VRk.get k q
      have e1 : getK ((k', x) :: xs) k = getK xs k := by simp [getK, List.find?_cons, e]
      have e2 : valV ((k', u) :: t) k = valV t k := by simp [valV, List.find?_cons, e]
      rw [e1, e2]
      exact ih
theorem VRt.get (k : List MK) : ∀ {xs : List (List MK × MV)} {us : List (List Key × V)}, VRt K r w H xs us → (getK xs k = none ∧ valV us k = none) ∨ ∃ x u, getK xs k = some x ∧ valV us k = some u ∧ VR K r w H x u
  | [], us, h => by simp only [VRt] at h; subst h; exact .inl ⟨rfl, rfl⟩
  | (k', x) :: xs, us, h => by
    simp only [VRt] at h
    obtain ⟨u, t, rfl, q1, q⟩ := h
    by_cases e : k' = k
    · subst e
      exact .inr ⟨x, u, by simp [getK], by simp [valV], q1⟩
    · have ih := VRt.get k q
      have e1 : getK ((k', x) :: xs) k = getK xs k := by simp [getK, List.find?_cons, e]
      have e2 : valV ((k', u) :: t) k = valV t k := by simp [valV, List.find?_cons, e]
      rw [e1, e2]
      exact ih
theorem VRk.app : ∀ {xs ys : List (MK × MV)} {us ws : List (Key × V)}, VRk K r w H xs us → VRk K r w H ys ws → VRk K r w H (xs ++ ys) (us ++ ws)
  | [], ys, us, ws, h, q => by simp only [VRk] at h; subst h; exact q
  | (k, x) :: xs, ys, us, ws, h, q => by
    simp only [VRk] at h
    obtain ⟨u, t, rfl, h1, h2⟩ := h
    simp only [List.cons_append, VRk]
    exact ⟨u, t ++ ws, rfl, h1, VRk.app h2 q⟩
theorem VRt.app : ∀ {xs ys : List (List MK × MV)} {us ws : List (List Key × V)}, VRt K r w H xs us → VRt K r w H ys ws → VRt K r w H (xs ++ ys) (us ++ ws)
  | [], ys, us, ws, h, q => by simp only [VRt] at h; subst h; exact q
  | (k, x) :: xs, ys, us, ws, h, q => by
    simp only [VRt] at h
    obtain ⟨u, t, rfl, h1, h2⟩ := h
    simp only [List.cons_append, VRt]
    exact ⟨u, t ++ ws, rfl, h1, VRt.app h2 q⟩
theorem VRk.rep (k : MK) {v : MV} {y : V} (hv : VR K r w H v y) : ∀ {xs : List (MK × MV)} {us : List (Key × V)}, VRk K r w H xs us → VRk K r w H (xs.map fun kv => if kv.1 = k then (kv.1, v) else kv) (us.map fun kv => if kv.1 = k then (kv.1, y) else kv)
  | [], us, h => by simp only [VRk] at h; subst h; simp [VRk]
  | (k', x) :: xs, us, h => by
    simp only [VRk] at h
    obtain ⟨u, t, rfl, q1, q⟩ := h
    have ih := VRk.rep k hv q
    by_cases e : k' = k
    · simp only [List.map_cons, e, if_true, VRk]
      exact ⟨y, _, rfl, hv, ih⟩
    · simp only [List.map_cons, e, if_false, VRk]
      exact ⟨u, _, rfl, q1, ih⟩
theorem VRt.rep (k : List MK) {v : MV} {y : V} (hv : VR K r w H v y) : ∀ {xs : List (List MK × MV)} {us : List (List Key × V)}, VRt K r w H xs us → VRt K r w H (xs.map fun kv => if kv.1 = k then (kv.1, v) else kv) (us.map fun kv => if kv.1 = k then (kv.1, y) else kv)
  | [], us, h => by simp only [VRt] at h; subst h; simp [VRt]
  | (k', x) :: xs, us, h => by
    simp only [VRt] at h
    obtain ⟨u, t, rfl, q1, q⟩ := h
    have ih := VRt.rep k hv q
    by_cases e : k' = k
    · simp only [List.map_cons, e, if_true, VRt]
      exact ⟨y, _, rfl, hv, ih⟩
    · simp only [List.map_cons, e, if_false, VRt]
      exact ⟨u, _, rfl, q1, ih⟩
theorem any_map_key {κ α β : Type} [DecidableEq κ] (k : κ) (xs : List (κ × α)) (us : List (κ × β)) (e : us.map (·.1) = xs.map (·.1)) : (us.any fun kv => decide (kv.1 = k)) = xs.any fun kv => decide (kv.1 = k) := by
  have h1 : (us.any fun kv => decide (kv.1 = k)) = (us.map (·.1)).any fun x => decide (x = k) := by rw [List.any_map]; rfl
  have h2 : (xs.any fun kv => decide (kv.1 = k)) = (xs.map (·.1)).any fun x => decide (x = k) := by rw [List.any_map]; rfl
  rw [h1, h2, e]
theorem VRk.put (k : MK) {v : MV} {y : V} (hv : VR K r w H v y) {xs : List (MK × MV)} {us : List (Key × V)} (h : VRk K r w H xs us) : VRk K r w H (putM xs k v) (putK us k y) := by
  unfold putM putK
  rw [any_map_key k xs us (VRk.keys h)]
  split
  · exact VRk.rep k hv h
  · refine VRk.app h ?_
    simp only [VRk]
    exact ⟨y, [], rfl, hv, rfl⟩
theorem VRt.put (k : List MK) {v : MV} {y : V} (hv : VR K r w H v y) {xs : List (List MK × MV)} {us : List (List Key × V)} (h : VRt K r w H xs us) : VRt K r w H (putM xs k v) (putK us k y) := by
  unfold putM putK
  rw [any_map_key k xs us (VRt.keys h)]
  split
  · exact VRt.rep k hv h
  · refine VRt.app h ?_
    simp only [VRt]
    exact ⟨y, [], rfl, hv, rfl⟩
theorem SR.set {s : SM} {z : L2.St} (h : SR K r w H s z) (i : Nat) {v : MV} {u : V} (hv : VR K r w H v u) : SR K r w H (s.set i (some v)) (z.set i (some u)) := by
  refine ⟨by simp [h.1], fun j w e => ?_⟩
  by_cases q : j = i
  · subst q
    have hl : j < s.length := by
      have := (List.getElem?_eq_some_iff.mp e).1
      simpa using this
    rw [List.getElem?_set_self hl] at e
    cases e
    rw [List.getElem?_set_self (by rw [← h.1]; exact hl)]
    exact ⟨u, rfl, hv⟩
  · rw [List.getElem?_set_ne (Ne.symm q)] at e ⊢
    exact h.2 j w e
end
end Ew
end

section
set_option Elab.async false
set_option linter.all false
set_option maxRecDepth 100000
set_option maxHeartbeats 4000000
/-! EwC: the rules of the small machine. -/
namespace Ew
open PySem PySem.Spec PyProof.Rows L2

theorem PE.wk {X : Cx} {e : Expr} {t t' : TE} (h : PE X e t) (w : ∀ z H Q, t' z H Q → t z H Q) : PE X e t' := ⟨fun pins s z H Q I q => h.run pins s z H Q I (w z H Q q)⟩
theorem PT.wk {X : Cx} {e : Expr} {t t' : TT} (h : PT X e t) (w : ∀ z H Q, t' z H Q → t z H Q) : PT X e t' := ⟨fun pins s z H Q I q => h.run pins s z H Q I (w z H Q q)⟩
theorem PW.wk {X : Cx} {e : Expr} {t t' : TT} (h : PW X e t) (w : ∀ z H Q, t' z H Q → t z H Q) : PW X e t' := ⟨fun wh pins s z H Q I q => h.run wh pins s z H Q I (w z H Q q)⟩
theorem PA.wk {X : Cx} {es : List Expr} {t t' : TA} (h : PA X es t) (w : ∀ z H Q, t' z H Q → t z H Q) : PA X es t' := ⟨fun pos pins s z H Q I q => h.run pos pins s z H Q I (w z H Q q)⟩
theorem PS.wk {X : Cx} {st : Stmt} {t t' : TS} (h : PS X st t) (w : ∀ D z H, t' D z H → t D z H) : PS X st t' := ⟨fun pins s z H D I q => h.run pins s z H D I (w D z H q)⟩
theorem PSs.wk {X : Cx} {st : List Stmt} {t t' : TS} (h : PSs X st t) (w : ∀ D z H, t' D z H → t D z H) : PSs X st t' := ⟨fun pins s z H D I q => h.run pins s z H D I (w D z H q)⟩

/-! ### the readings -/
section
variable (K : PySem.W.Frag)
def Cont (r w : List Addr) (h' : MH) (H : Hp) (v : MV) (Q : VK) : Prop := ∀ r' u H', Fwd r H r' H' → Rel K r' w h' H' → VR K r' w H' v u → Q u H'
def ContS (r w : List Addr) (h' : MH) (H : Hp) (s' : SM) (Q : L2.St → Hp → Prop) : Prop := ∀ r' z' H', Fwd r H r' H' → Rel K r' w h' H' → SR K r' w H' s' z' → Q z' H'
def tM (m : XE) : TE := fun z H Q => ∃ r w s h v h', Rel K r w h H ∧ SR K r w H s z ∧ m s h = some (v, h') ∧ Cont K r w h' H v Q
def tT (m : XT) : TT := fun z H Q => ∃ r w s h v h', Rel K r w h H ∧ SR K r w H s z ∧ m s h = some (v, h') ∧ ∀ r' H', Fwd r H r' H' → Rel K r' w h' H' → Q v H'
def tA (m : XA) : TA := fun z H Q => ∃ r w s h vs h', Rel K r w h H ∧ SR K r w H s z ∧ m s h = some (vs, h') ∧ ∀ r' us H', Fwd r H r' H' → Rel K r' w h' H' → VRs K r' w H' vs us → Q us H'
/-- a fresh list or dict at p -/
def VF (r w : List Addr) (H : Hp) (v : MV) (p : Addr) : Prop := match v with
  | .lst xs => ∃ us, H p = some (.lst us) ∧ VRs K r w H xs us
  | .dK kvs => ∃ us, H p = some (.dK us) ∧ VRk K r w H kvs us
  | .dT kvs => ∃ us, H p = some (.dT us) ∧ VRt K r w H kvs us
  | _ => False
def ContF (r w : List Addr) (h' : MH) (H : Hp) (v : MV) (Q : VK) : Prop := ∀ r' p H', Fwd r H r' H' → H p = none → Rel K r' (p :: w) h' H' → VF K r' (p :: w) H' v p → Q (.ref p) H'
def tF (m : XE) : TE := fun z H Q => ∃ r w s h v h', Rel K r w h H ∧ SR K r w H s z ∧ m s h = some (v, h') ∧ ContF K r w h' H v Q
def EndS (r w : List Addr) (h' : MH) (H : Hp) (s' : SM) (D : Ends) : Fl → Prop
  | .nx => ContS K r w h' H s' D.nx
  | .bk => ContS K r w h' H s' D.bk
  | .ct => ContS K r w h' H s' D.ct
  | .rt v => Cont K r w h' H v D.rt
def tS (m : XS) : TS := fun D z H => ∃ r w s h f s' h', Rel K r w h H ∧ SR K r w H s z ∧ m s h = some (f, s', h') ∧ EndS K r w h' H s' D f
def tG (m : XG) : TG := fun u z H Q => ∃ r w s h v s' h', Rel K r w h H ∧ SR K r w H s z ∧ VR K r w H v u ∧ m v s h = some (s', h') ∧ ContS K r w h' H s' Q
def tGs (m : XGs) : TGs := fun us z H Q => ∃ r w s h vs s' h', Rel K r w h H ∧ SR K r w H s z ∧ VRs K r w H vs us ∧ m vs s h = some (s', h') ∧ ContS K r w h' H s' Q
def tO (m : XO) : TO := fun z H Q => ∃ r w s h v h', Rel K r w h H ∧ SR K r w H s z ∧ m s h = some (v, h') ∧ ∀ r' H', Fwd r H r' H' → Rel K r' w h' H' → Q v H'
end
abbrev ME (X : Cx) (e : Expr) (m : XE) : Prop := PE X e (tM X.K m)
abbrev MF (X : Cx) (e : Expr) (m : XE) : Prop := PE X e (tF X.K m)
abbrev MT (X : Cx) (e : Expr) (m : XT) : Prop := PT X e (tT X.K m)
abbrev MW (X : Cx) (e : Expr) (m : XT) : Prop := PW X e (tT X.K m)
structure MA (X : Cx) (es : List Expr) (m : XA) : Prop where
  pa : PA X es (tA X.K m)
  len : ∀ s h vs h', m s h = some (vs, h') → vs.length = es.length
abbrev MS (X : Cx) (st : Stmt) (m : XS) : Prop := PS X st (tS X.K m)
abbrev MSs (X : Cx) (st : List Stmt) (m : XS) : Prop := PSs X st (tS X.K m)
abbrev MG (X : Cx) (e : Expr) (m : XG) : Prop := PG X e (tG X.K m)
abbrev MGs (X : Cx) (es : List Expr) (m : XGs) : Prop := PGs X es (tGs X.K m)
abbrev MO (X : Cx) (e : Option Expr) (m : XO) : Prop := PO X e (tO X.K m)
section
variable {K : PySem.W.Frag} {r r' r1 w : List Addr} {H H' H1 : Hp} {h h' : MH}
theorem Cont.now {v : MV} {Q : VK} {u : V} (C : Cont K r w h H v Q) (R : Rel K r w h H) (q : VR K r w H v u) : Q u H := C r u H (Fwd.refl r H) R q
theorem Cont.fwd {v : MV} {Q : VK} {hh : MH} (C : Cont K r w h' H v Q) (F : Fwd r H r1 H1) (R1 : Rel K r1 w hh H1) : Cont K r1 w h' H1 v Q := fun r' u H' F' R' q => C r' u H' (F.tr R1 F') R' q
theorem ContS.now {s : SM} {Q : L2.St → Hp → Prop} {z : L2.St} (C : ContS K r w h H s Q) (R : Rel K r w h H) (q : SR K r w H s z) : Q z H := C r z H (Fwd.refl r H) R q
theorem ContS.fwd {s : SM} {Q : L2.St → Hp → Prop} {hh : MH} (C : ContS K r w h' H s Q) (F : Fwd r H r1 H1) (R1 : Rel K r1 w hh H1) : ContS K r1 w h' H1 s Q := fun r' u H' F' R' q => C r' u H' (F.tr R1 F') R' q
theorem ContF.fwd {v : MV} {Q : VK} {hh : MH} (C : ContF K r w h' H v Q) (F : Fwd r H r1 H1) (R1 : Rel K r1 w hh H1) : ContF K r1 w h' H1 v Q := fun r' p H' F' n R' q => C r' p H' (F.tr R1 F') (F.free R1 p n) R' q
theorem EndS.fwd {s : SM} {D : Ends} {f : Fl} {hh : MH} (C : EndS K r w h' H s D f) (F : Fwd r H r1 H1) (R1 : Rel K r1 w hh H1) : EndS K r1 w h' H1 s D f := by
  cases f <;> simp only [EndS] at C ⊢
  · exact ContS.fwd C F R1
  · exact Cont.fwd C F R1
  · exact ContS.fwd C F R1
  · exact ContS.fwd C F R1
theorem VF.vr {v : MV} {p : Addr} (R : Rel K r w h H) (np : Out r w p) (q : VF K r w H v p) : VR K r w H v (.ref p) := by
  cases v <;> simp only [VF] at q
  · obtain ⟨us, a, b⟩ := q
    simp only [VR]
    exact ⟨p, us, rfl, np, a, b⟩
  · obtain ⟨us, a, b⟩ := q
    simp only [VR]
    exact ⟨p, us, rfl, np, .inl a, b⟩
  · obtain ⟨us, a, b⟩ := q
    simp only [VR]
    exact ⟨p, us, rfl, np, .inl a, b⟩
theorem VF.map {r' w' : List Addr} (F : Stp r w H r' w' H') {v : MV} {p : Addr} (e : H' p = H p) (q : VF K r w H v p) : VF K r' w' H' v p := by
  cases v <;> simp only [VF] at q ⊢
  · obtain ⟨us, a, b⟩ := q
    exact ⟨us, e.trans a, VRs.map F _ _ b⟩
  · obtain ⟨us, a, b⟩ := q
    exact ⟨us, e.trans a, VRk.map F _ _ b⟩
  · obtain ⟨us, a, b⟩ := q
    exact ⟨us, e.trans a, VRt.map F _ _ b⟩
/-- a fresh list that was just laid -/
theorem ContF.lst {xs : List MV} {us : List V} {p : Addr} {Q : VK} (C : ContF K r w h H (.lst xs) Q) (R : Rel K r w h H) (hp : H p = none) (q : VRs K r w H xs us) : Q (.ref p) (upd H p (.lst us)) :=
  C r p _ (Fwd.new r hp) hp (R.hold hp) (by simp only [VF]; exact ⟨us, upd_same, VRs.map (Stp.hold R hp) _ _ q⟩)
theorem VR.newTup {xs : List MV} {us : List V} {p : Addr} (R : Rel K r w h H) (hp : H p = none) (q : VRs K r w H xs us) : VR K r w (upd H p (.tup us)) (.tup xs) (.ref p) := by
  simp only [VR]
  exact ⟨p, us, rfl, ⟨⟨R.nin hp, R.ninw hp⟩, upd_same⟩, VRs.fwd (Fwd.new r hp) _ _ q⟩
theorem Cont.tup {xs : List MV} {us : List V} {p : Addr} {Q : VK} (C : Cont K r w h H (.tup xs) Q) (R : Rel K r w h H) (hp : H p = none) (q : VRs K r w H xs us) : Q (.ref p) (upd H p (.tup us)) :=
  C r _ _ (Fwd.new r hp) (R.new hp) (VR.newTup R hp q)
end

/-! ### expressions -/
section
variable {K : PySem.W.Frag} {X : Cx} {e a b c : Expr} {m ma mb mc : XE} {pos : Pos}
/-- a fresh thing as a value; as a cell -/
theorem MF.me (he : MF X e m) : ME X e m := PE.wk he fun z H Q ⟨r, w, s, h, v, h', R, S, e, C⟩ => ⟨r, w, s, h, v, h', R, S, e, fun r' p H' F n R' q => by
  refine C r' (.ref p) H' F R'.drop (VF.vr R'.drop ⟨(R'.wh p List.mem_cons_self).1, R.ninw n⟩ (VF.map Stp.drop rfl q))⟩
theorem me_box (he : MF X e m) : ME X e (xBox m) := PE.wk he fun z H Q ⟨r, w, s, h, v, h', R, S, e, C⟩ => by
  unfold xBox at e
  cases e1 : m s h with
  | none => simp [e1] at e
  | some p =>
    obtain ⟨y, h1⟩ := p
    simp only [e1] at e
    refine ⟨r, w, s, h, y, h1, R, S, e1, fun r' p H' F n R' q => ?_⟩
    have np : p ∉ w := R.ninw n
    have F2 : Fwd r H (r' ++ [p]) H' := by
      obtain ⟨⟨ps, rfl, hps⟩, k, fz⟩ := F
      exact ⟨⟨ps ++ [p], by simp, fun x hx => by
        rcases List.mem_append.mp hx with hx | hx
        · exact hps x hx
        · rw [List.mem_singleton.mp hx]; exact n⟩, k, fz⟩
    have V : VR X.K (r' ++ [p]) w H' (.ref h1.length) (.ref p) := by
      simp only [VR]
      exact ⟨p, rfl, by rw [← R'.len]; simp⟩
    cases y <;> simp only [VF] at q <;> simp only [boxM, Option.some.injEq, Prod.mk.injEq, reduceCtorEq] at e
    · obtain ⟨rfl, rfl⟩ := e
      exact C (r' ++ [p]) _ H' F2 (R'.cell np (c := .lst _) q) V
    · obtain ⟨rfl, rfl⟩ := e
      exact C (r' ++ [p]) _ H' F2 (R'.cell np (c := .dK _) q) V
    · obtain ⟨rfl, rfl⟩ := e
      exact C (r' ++ [p]) _ H' F2 (R'.cell np (c := .dT _) q) V
theorem me_var {i : Nat} {x : Str} (hN : X.N[i]? = some x := by rfl) (hv : Vis X.env.scope x := by first | exact Or.inl rfl | exact Or.inr (Or.inl rfl) | exact Or.inr (Or.inr rfl)) (hd : (x == ("__debug__" : Str)) = false := by decide +kernel)
    (hcd : (x == ("__classdict__" : Str)) = false := by decide +kernel) : ME X (.Name x pos) (xVar i) := PE.wk (pe_var hN hv hd hcd) fun z H Q ⟨r, w, s, h, v, h', R, S, e, C⟩ => by
  unfold xVar at e
  cases e1 : s[i]? with
  | none => simp [e1] at e
  | some o =>
    cases o with
    | none => simp [e1] at e
    | some y =>
      simp only [e1, Option.some.injEq, Prod.mk.injEq] at e
      obtain ⟨rfl, rfl⟩ := e
      obtain ⟨u, q1, q2⟩ := S.2 i y e1
      exact ⟨u, q1, C.now R q2⟩
theorem me_c {v : MV} {u : V} (he : PE X e (tC u)) (hv : ∀ (r w : List Addr) (H : Hp), VR X.K r w H v u) : ME X e (xC v) := PE.wk he fun z H Q ⟨r, w, s, h, v', h', R, S, e, C⟩ => by
  simp only [xC, Option.some.injEq, Prod.mk.injEq] at e
  obtain ⟨rfl, rfl⟩ := e
  exact C.now R (hv _ _ _)
theorem me_int {i : Int} {j : Nat} : ME X (.Constant (.int i) j pos) (xC (.int i)) := me_c pe_int fun _ _ _ => by simp [VR]
theorem me_bl {k : Bool} {j : Nat} : ME X (.Constant (.bool k) j pos) (xC (.bl k)) := me_c pe_bl fun _ _ _ => by simp [VR]
theorem me_non {j : Nat} : ME X (.Constant .none j pos) (xC .non) := me_c pe_non fun _ _ _ => by simp [VR]
theorem me_str {x : Str} {j : Nat} : ME X (.Constant (.str x) j pos) (xC (.str x)) := me_c pe_str fun _ _ _ => by simp [VR]
/-- a module's number -/
theorem me_globI {x : Str} {i : Int} (hm : ∃ t, X.mg x = some (.int i t)) (hg : Gl X x := by rfl) (hd : (x == ("__debug__" : Str)) = false := by decide +kernel) : ME X (.Name x pos) (xC (.int i)) := by
  obtain ⟨t, hm⟩ := hm
  exact me_c (pe_glob hg hm (v := .int i) ⟨t, rfl⟩ hd) fun _ _ _ => by simp [VR]
/-- two expressions and what is made of their values -/
theorem bin_wk {f : MH → MV → MV → Option MV} {t : R2} (hr : ∀ r w h H x y v u1 u2 Q, Rel K r w h H → VR K r w H x u1 → VR K r w H y u2 → f h x y = some v → Cont K r w h H v Q → t u1 u2 H Q) :
    ∀ z H Q, tM K (xOp f ma mb) z H Q → tOp t (tM K ma) (tM K mb) z H Q := fun z H Q ⟨r, w, s, h, v, h', R, S, e, C⟩ => by
  unfold xOp at e
  cases e1 : ma s h with
  | none => simp [e1] at e
  | some p1 =>
    obtain ⟨x, h1⟩ := p1
    simp only [e1] at e
    cases e2 : mb s h1 with
    | none => simp [e2] at e
    | some p2 =>
      obtain ⟨y, h2⟩ := p2
      simp only [e2] at e
      cases e3 : f h2 x y with
      | none => simp [e3] at e
      | some v' =>
        simp only [e3, Option.some.injEq, Prod.mk.injEq] at e
        obtain ⟨rfl, rfl⟩ := e
        exact ⟨r, w, s, h, x, h1, R, S, e1, fun r1 u1 H1 F1 R1 V1 => ⟨r1, w, s, h1, y, h2, R1, S.fwd F1, e2, fun r2 u2 H2 F2 R2 V2 =>
          hr r2 w h2 H2 x y v' u1 u2 Q R2 (VR.fwd F2 _ _ V1) V2 e3 ((C.fwd F1 R1).fwd F2 R2)⟩⟩
theorem me_op {op : Operator} {f : MH → MV → MV → Option MV} {t : R2} (ho : OpR X (binaryOp op) t) (hr : ∀ r w h H x y v u1 u2 Q, Rel X.K r w h H → VR X.K r w H x u1 → VR X.K r w H y u2 → f h x y = some v → Cont X.K r w h H v Q → t u1 u2 H Q)
    (ha : ME X a ma) (hb : ME X b mb) : ME X (.BinOp a op b pos) (xOp f ma mb) := PE.wk (pe_op ho ha hb) (bin_wk hr)
/-- a truth as a test -/
theorem tB_wk : ∀ z H Q, tT K (xB m) z H Q → tM K m z H fun x H' => ∃ k, x = .bl k ∧ Q k H' := fun z H Q ⟨r, w, s, h, v, h', R, S, e, C⟩ => by
  unfold xB at e
  cases e1 : m s h with
  | none => simp [e1] at e
  | some p =>
    obtain ⟨y, h1⟩ := p
    cases y <;> simp only [e1, reduceCtorEq, Option.some.injEq, Prod.mk.injEq] at e
    obtain ⟨rfl, rfl⟩ := e
    exact ⟨r, w, s, h, _, h1, R, S, e1, fun r' u H' F R' q => by
      simp only [VR] at q
      exact ⟨_, q, C r' H' F R'⟩⟩
theorem c_cmp {op : CmpOp} {f : MH → MV → MV → Option MV} {t : R2} (ho : OpR X (compareOp op) t) (hr : ∀ r w h H x y v u1 u2 Q, Rel X.K r w h H → VR X.K r w H x u1 → VR X.K r w H y u2 → f h x y = some v → Cont X.K r w h H v Q → t u1 u2 H Q)
    (ha : ME X a ma) (hb : ME X b mb) (hm : behindInMarks op b = false) : ME X (.Compare a [op] [b] pos) (xOp f ma mb) ∧ MT X (.Compare a [op] [b] pos) (xB (xOp f ma mb)) :=
  ⟨PE.wk (pe_cmpR ho ha hb hm) (bin_wk hr), PT.wk (pt_cmpR ho ha hb hm) fun z H Q q => bin_wk hr z H _ (tB_wk z H Q q)⟩
/-- any other expression that gives a truth, as a test -/
theorem mt_val (he : ME X e m) (hs : ∀ whole, isTrue e X.env whole = (do let v ← whole; standAt e.pos; holding [v] (truthy v)) := by intro _; rfl) : MT X e (xB m) := PT.wk (pt_val he hs) tB_wk
theorem opAdd_i : ∀ h x y v, opAdd h x y = some v → ∃ i j, x = .int i ∧ y = .int j ∧ v = .int (i + j) := by
  intro h x y v e
  cases x <;> cases y <;> simp [opAdd] at e
  exact ⟨_, _, rfl, rfl, e.symm⟩
theorem opSub_i : ∀ h x y v, opSub h x y = some v → ∃ i j, x = .int i ∧ y = .int j ∧ v = .int (i - j) := by
  intro h x y v e
  cases x <;> cases y <;> simp [opSub] at e
  exact ⟨_, _, rfl, rfl, e.symm⟩
theorem opMul_i : ∀ h x y v, opMul h x y = some v → ∃ i j, x = .int i ∧ y = .int j ∧ CMulW i j ∧ v = .int (i * j) := by
  intro h x y v e
  cases x <;> cases y <;> simp [opMul] at e
  exact ⟨_, _, rfl, rfl, e.1, e.2.symm⟩
theorem opDiv_i : ∀ h x y v, opDiv h x y = some v → ∃ i j, x = .int i ∧ y = .int j ∧ CDivW i j ∧ v = .int (i / j) := by
  intro h x y v e
  cases x <;> cases y <;> simp [opDiv] at e
  exact ⟨_, _, rfl, rfl, e.1, e.2.symm⟩
theorem opMod_i : ∀ h x y v, opMod h x y = some v → ∃ i j, x = .int i ∧ y = .int j ∧ 0 < j ∧ v = .int (i % j) := by
  intro h x y v e
  cases x <;> cases y <;> simp [opMod] at e
  exact ⟨_, _, rfl, rfl, e.1, e.2.symm⟩
theorem opPow_i : ∀ h x y v, opPow h x y = some v → ∃ i j, x = .int i ∧ y = .int j ∧ CPow i j ∧ v = .int (i ^ j.toNat) := by
  intro h x y v e
  cases x <;> cases y <;> simp only [opPow, reduceCtorEq] at e
  split at e
  · rename_i hc
    simp at e
    exact ⟨_, _, rfl, rfl, hc, e.symm⟩
  · cases e
theorem opLt_i : ∀ h x y v, opLt h x y = some v → ∃ i j, x = .int i ∧ y = .int j ∧ v = .bl (decide (i < j)) := by
  intro h x y v e
  cases x <;> cases y <;> simp [opLt] at e
  exact ⟨_, _, rfl, rfl, e.symm⟩
theorem opLe_i : ∀ h x y v, opLe h x y = some v → ∃ i j, x = .int i ∧ y = .int j ∧ v = .bl (decide (i ≤ j)) := by
  intro h x y v e
  cases x <;> cases y <;> simp [opLe] at e
  exact ⟨_, _, rfl, rfl, e.symm⟩
theorem opGt_i : ∀ h x y v, opGt h x y = some v → ∃ i j, x = .int i ∧ y = .int j ∧ v = .bl (decide (j < i)) := by
  intro h x y v e
  cases x <;> cases y <;> simp [opGt] at e
  exact ⟨_, _, rfl, rfl, e.symm⟩
theorem opGe_i : ∀ h x y v, opGe h x y = some v → ∃ i j, x = .int i ∧ y = .int j ∧ v = .bl (decide (j ≤ i)) := by
  intro h x y v e
  cases x <;> cases y <;> simp [opGe] at e
  exact ⟨_, _, rfl, rfl, e.symm⟩
theorem me_add (ha : ME X a ma) (hb : ME X b mb) : ME X (.BinOp a .Add b pos) (xOp opAdd ma mb) := me_op op_add (fun r w h H x y v u1 u2 Q R V1 V2 e C => by
  obtain ⟨i, j, rfl, rfl, rfl⟩ := opAdd_i h x y v e
  simp only [VR] at V1 V2
  exact ⟨i, j, V1, V2, C.now R (by simp [VR])⟩) ha hb
theorem me_sub (ha : ME X a ma) (hb : ME X b mb) : ME X (.BinOp a .Sub b pos) (xOp opSub ma mb) := me_op op_sub (fun r w h H x y v u1 u2 Q R V1 V2 e C => by
  obtain ⟨i, j, rfl, rfl, rfl⟩ := opSub_i h x y v e
  simp only [VR] at V1 V2
  exact ⟨i, j, V1, V2, C.now R (by simp [VR])⟩) ha hb
theorem me_mul (ha : ME X a ma) (hb : ME X b mb) : ME X (.BinOp a .Mult b pos) (xOp opMul ma mb) := me_op op_mulW (fun r w h H x y v u1 u2 Q R V1 V2 e C => by
  obtain ⟨i, j, rfl, rfl, hc, rfl⟩ := opMul_i h x y v e
  simp only [VR] at V1 V2
  exact ⟨i, j, V1, V2, hc, C.now R (by simp [VR])⟩) ha hb
theorem me_div (ha : ME X a ma) (hb : ME X b mb) : ME X (.BinOp a .FloorDiv b pos) (xOp opDiv ma mb) := me_op op_fdivW (fun r w h H x y v u1 u2 Q R V1 V2 e C => by
  obtain ⟨i, j, rfl, rfl, hc, rfl⟩ := opDiv_i h x y v e
  simp only [VR] at V1 V2
  exact ⟨i, j, V1, V2, hc, C.now R (by simp [VR])⟩) ha hb
theorem me_mod (ha : ME X a ma) (hb : ME X b mb) : ME X (.BinOp a .Mod b pos) (xOp opMod ma mb) := me_op op_mod (fun r w h H x y v u1 u2 Q R V1 V2 e C => by
  obtain ⟨i, j, rfl, rfl, hc, rfl⟩ := opMod_i h x y v e
  simp only [VR] at V1 V2
  exact ⟨i, j, V1, V2, hc, C.now R (by simp [VR])⟩) ha hb
theorem me_pow (ha : ME X a ma) (hb : ME X b mb) : ME X (.BinOp a .Pow b pos) (xOp opPow ma mb) := me_op op_pow (fun r w h H x y v u1 u2 Q R V1 V2 e C => by
  obtain ⟨i, j, rfl, rfl, hc, rfl⟩ := opPow_i h x y v e
  simp only [VR] at V1 V2
  exact ⟨i, j, V1, V2, hc, C.now R (by simp [VR])⟩) ha hb
theorem c_lt (ha : ME X a ma) (hb : ME X b mb) : ME X (.Compare a [.Lt] [b] pos) (xOp opLt ma mb) ∧ MT X (.Compare a [.Lt] [b] pos) (xB (xOp opLt ma mb)) := c_cmp op_lt (fun r w h H x y v u1 u2 Q R V1 V2 e C => by
  obtain ⟨i, j, rfl, rfl, rfl⟩ := opLt_i h x y v e
  simp only [VR] at V1 V2
  exact ⟨i, j, V1, V2, C.now R (by simp [VR])⟩) ha hb (nomark _)
theorem c_le (ha : ME X a ma) (hb : ME X b mb) : ME X (.Compare a [.LtE] [b] pos) (xOp opLe ma mb) ∧ MT X (.Compare a [.LtE] [b] pos) (xB (xOp opLe ma mb)) := c_cmp op_le (fun r w h H x y v u1 u2 Q R V1 V2 e C => by
  obtain ⟨i, j, rfl, rfl, rfl⟩ := opLe_i h x y v e
  simp only [VR] at V1 V2
  exact ⟨i, j, V1, V2, C.now R (by simp [VR])⟩) ha hb (nomark _)
theorem c_gt (ha : ME X a ma) (hb : ME X b mb) : ME X (.Compare a [.Gt] [b] pos) (xOp opGt ma mb) ∧ MT X (.Compare a [.Gt] [b] pos) (xB (xOp opGt ma mb)) := c_cmp op_gt (fun r w h H x y v u1 u2 Q R V1 V2 e C => by
  obtain ⟨i, j, rfl, rfl, rfl⟩ := opGt_i h x y v e
  simp only [VR] at V1 V2
  exact ⟨i, j, V1, V2, C.now R (by simp [VR])⟩) ha hb (nomark _)
theorem c_ge (ha : ME X a ma) (hb : ME X b mb) : ME X (.Compare a [.GtE] [b] pos) (xOp opGe ma mb) ∧ MT X (.Compare a [.GtE] [b] pos) (xB (xOp opGe ma mb)) := c_cmp op_ge (fun r w h H x y v u1 u2 Q R V1 V2 e C => by
  obtain ⟨i, j, rfl, rfl, rfl⟩ := opGe_i h x y v e
  simp only [VR] at V1 V2
  exact ⟨i, j, V1, V2, C.now R (by simp [VR])⟩) ha hb (nomark _)
theorem c_isN (ha : ME X a ma) (hb : ME X b mb) : ME X (.Compare a [.Is] [b] pos) (xOp opIsNon ma mb) ∧ MT X (.Compare a [.Is] [b] pos) (xB (xOp opIsNon ma mb)) := c_cmp op_isN (fun r w h H x y v u1 u2 Q R V1 V2 e C => by
  cases y <;> simp only [opIsNon, reduceCtorEq, Option.some.injEq] at e
  subst e
  simp only [VR] at V2
  refine ⟨V2, C.now R ?_⟩
  cases x <;> simp only [VR] at V1 ⊢ <;> first | (subst V1; rfl) | (obtain ⟨p, q⟩ := V1; rw [q.1]; rfl) | (obtain ⟨p, us, q⟩ := V1; rw [q.1]; rfl)) ha hb (nomark _)
theorem c_notN (ha : ME X a ma) (hb : ME X b mb) : ME X (.Compare a [.IsNot] [b] pos) (xOp opNotNon ma mb) ∧ MT X (.Compare a [.IsNot] [b] pos) (xB (xOp opNotNon ma mb)) := c_cmp op_notN (fun r w h H x y v u1 u2 Q R V1 V2 e C => by
  cases y <;> simp only [opNotNon, reduceCtorEq, Option.some.injEq] at e
  subst e
  simp only [VR] at V2
  refine ⟨V2, C.now R ?_⟩
  cases x <;> simp only [VR] at V1 ⊢ <;> first | (subst V1; rfl) | (obtain ⟨p, q⟩ := V1; rw [q.1]; rfl) | (obtain ⟨p, us, q⟩ := V1; rw [q.1]; rfl)) ha hb (nomark _)
end
end Ew
end

section
set_option Elab.async false
set_option linter.all false
set_option maxRecDepth 100000
set_option maxHeartbeats 4000000
/-! EwD: more rules of the small machine. -/
namespace Ew
open PySem PySem.Spec PyProof.Rows L2
theorem PE.or2 {X : Cx} {e : Expr} {t t' : TE} (h : PE X e t) (h' : PE X e t') : PE X e (fun z H Q => t z H Q ∨ t' z H Q) := ⟨fun pins s z H Q I q => q.elim (h.run pins s z H Q I) (h'.run pins s z H Q I)⟩
theorem PT.or2 {X : Cx} {e : Expr} {t t' : TT} (h : PT X e t) (h' : PT X e t') : PT X e (fun z H Q => t z H Q ∨ t' z H Q) := ⟨fun pins s z H Q I q => q.elim (h.run pins s z H Q I) (h'.run pins s z H Q I)⟩
theorem PS.or2 {X : Cx} {e : Stmt} {t t' : TS} (h : PS X e t) (h' : PS X e t') : PS X e (fun D z H => t D z H ∨ t' D z H) := ⟨fun pins s z H D I q => q.elim (h.run pins s z H D I) (h'.run pins s z H D I)⟩
theorem PI.or2 {X : Cx} {tg e : Expr} {t t' : TI} (h : PI X tg e t) (h' : PI X tg e t') : PI X tg e (fun z H Q => t z H Q ∨ t' z H Q) := ⟨fun pins s z H Q I q => q.elim (h.run pins s z H Q I) (h'.run pins s z H Q I)⟩
/-! ### data -/
mutual
def toP : MV → PyData
  | .non => .none
  | .bl b => .bool b
  | .int i => .int i
  | .str x => .str x
  | .tup xs => .tuple (toPs xs)
  | .lst xs => .list (toPs xs)
  | _ => .none
def toPs : List MV → List PyData
  | [] => []
  | x :: xs => toP x :: toPs xs
end
mutual
theorem toP_can : ∀ (n : Nat) (v : MV), isD n v = true → (toP v).canLay0 = true ∧ (toP v).depth ≤ n
  | n, .non, _ => by simp [toP, PyData.canLay0, PyData.depth]
  | n, .bl b, _ => by simp [toP, PyData.canLay0, PyData.depth]
  | n, .int i, _ => by simp [toP, PyData.canLay0, PyData.depth]
  | n, .str x, h => by
    simp only [isD, strFine, Bool.and_eq_true] at h
    simp only [toP, PyData.canLay0, PyData.strOk, PyData.depth]
    exact ⟨h.1, Nat.zero_le _⟩
  | 0, .tup xs, h => by simp [isD] at h
  | 0, .lst xs, h => by simp [isD] at h
  | n + 1, .tup xs, h => by
    simp only [isD] at h
    obtain ⟨a, b⟩ := toPs_can n xs h
    simp only [toP, PyData.canLay0, PyData.depth]
    exact ⟨a, by omega⟩
  | n + 1, .lst xs, h => by
    simp only [isD] at h
    obtain ⟨a, b⟩ := toPs_can n xs h
    simp only [toP, PyData.canLay0, PyData.depth]
    exact ⟨a, by omega⟩
  | n, .scr _, h => by cases n <;> simp [isD] at h
  | n, .dK _, h => by cases n <;> simp [isD] at h
  | n, .dT _, h => by cases n <;> simp [isD] at h
  | n, .ref _, h => by cases n <;> simp [isD] at h
theorem toPs_can : ∀ (n : Nat) (v : List MV), isDs n v = true → PyData.canLayAll0 (toPs v) = true ∧ PyData.depthAll (toPs v) ≤ n
  | n, [], _ => by simp [toPs, PyData.canLayAll0, PyData.depthAll]
  | n, x :: xs, h => by
    simp only [isDs, Bool.and_eq_true] at h
    obtain ⟨a, b⟩ := toP_can n x h.1
    obtain ⟨c, d⟩ := toPs_can n xs h.2
    simp only [toPs, PyData.canLayAll0, PyData.depthAll, Bool.and_eq_true]
    exact ⟨⟨a, c⟩, by omega⟩
end
mutual
theorem toP_eqv : ∀ (x y : MV) (n : Nat), isD n x = true → isD n y = true → PyData.eqv (toP x) (toP y) = eqD x y
  | .tup xs, y, 0, hx, _ => by simp [isD] at hx
  | .lst xs, y, 0, hx, _ => by simp [isD] at hx
  | .tup xs, y, n + 1, hx, hy => by
    simp only [isD] at hx
    cases y <;> first | (simp [isD] at hy; done) | skip
    all_goals first
      | (rename_i ys; simp only [isD] at hy; simp only [toP, PyData.eqv, eqD]; exact toPs_eqv xs ys n hx hy)
      | (simp [toP, PyData.eqv, eqD])
  | .lst xs, y, n + 1, hx, hy => by
    simp only [isD] at hx
    cases y <;> first | (simp [isD] at hy; done) | skip
    all_goals first
      | (rename_i ys; simp only [isD] at hy; simp only [toP, PyData.eqv, eqD]; exact toPs_eqv xs ys n hx hy)
      | (simp [toP, PyData.eqv, eqD])
  | .non, y, n, hx, hy => by cases y <;> first | (cases n <;> simp [isD] at hy; done) | simp [toP, PyData.eqv, eqD]
  | .bl _, y, n, hx, hy => by cases y <;> first | (cases n <;> simp [isD] at hy; done) | simp [toP, PyData.eqv, eqD]
  | .int _, y, n, hx, hy => by cases y <;> first | (cases n <;> simp [isD] at hy; done) | simp [toP, PyData.eqv, eqD]
  | .str _, y, n, hx, hy => by cases y <;> first | (cases n <;> simp [isD] at hy; done) | simp [toP, PyData.eqv, eqD]
  | .scr _, y, n, hx, _ => by cases n <;> simp [isD] at hx
  | .dK _, y, n, hx, _ => by cases n <;> simp [isD] at hx
  | .dT _, y, n, hx, _ => by cases n <;> simp [isD] at hx
  | .ref _, y, n, hx, _ => by cases n <;> simp [isD] at hx
theorem toPs_eqv : ∀ (xs ys : List MV) (n : Nat), isDs n xs = true → isDs n ys = true → PyData.eqvAll (toPs xs) (toPs ys) = eqDs xs ys
  | [], [], n, _, _ => by simp [toPs, PyData.eqvAll, eqDs]
  | [], _ :: _, n, _, _ => by simp [toPs, PyData.eqvAll, eqDs]
  | _ :: _, [], n, _, _ => by simp [toPs, PyData.eqvAll, eqDs]
  | x :: xs, y :: ys, n, hx, hy => by
    simp only [isDs, Bool.and_eq_true] at hx hy
    simp only [toPs, PyData.eqvAll, eqDs]
    rw [toP_eqv x y n hx.1 hy.1, toPs_eqv xs ys n hx.2 hy.2]
end
mutual
theorem toP_dp (K : PySem.W.Frag) {r w : List Addr} {H : Hp} : ∀ (v : MV) (u : V) (n : Nat), isD n v = true → VR K r w H v u → Dp K H u (toP v)
  | .non, u, n, _, h => by simp only [VR] at h; subst h; exact Dp.non
  | .bl b, u, n, _, h => by simp only [VR] at h; subst h; exact Dp.bl b
  | .int i, u, n, _, h => by simp only [VR] at h; subst h; exact Dp.int i
  | .str x, u, n, _, h => by simp only [VR] at h; subst h; exact Dp.str x
  | .tup xs, u, 0, hd, h => by simp [isD] at hd
  | .lst xs, u, 0, hd, h => by simp [isD] at hd
  | .tup xs, u, n + 1, hd, h => by
    simp only [VR] at h
    simp only [isD] at hd
    obtain ⟨a, us, rfl, t, q⟩ := h
    exact Dp.tup t.sq (toPs_dp K xs us n hd q)
  | .lst xs, u, n + 1, hd, h => by
    simp only [VR] at h
    simp only [isD] at hd
    obtain ⟨a, us, rfl, _, t, q⟩ := h
    exact Dp.lst (.inl (.inl t)) (toPs_dp K xs us n hd q)
  | .scr _, u, n, hx, _ => by cases n <;> simp [isD] at hx
  | .dK _, u, n, hx, _ => by cases n <;> simp [isD] at hx
  | .dT _, u, n, hx, _ => by cases n <;> simp [isD] at hx
  | .ref _, u, n, hx, _ => by cases n <;> simp [isD] at hx
theorem toPs_dp (K : PySem.W.Frag) {r w : List Addr} {H : Hp} : ∀ (v : List MV) (u : List V) (n : Nat), isDs n v = true → VRs K r w H v u → DpAll K H u (toPs v)
  | [], u, n, _, h => by simp only [VRs] at h; subst h; exact DpAll.nil
  | x :: xs, u, n, hd, h => by
    simp only [VRs] at h
    simp only [isDs, Bool.and_eq_true] at hd
    obtain ⟨u, t, rfl, h1, h2⟩ := h
    exact DpAll.cons (toP_dp K x u n hd.1 h1) (toPs_dp K xs t n hd.2 h2)
end
theorem shaped_of {v : MV} (h : isD 60 v = true) : SeqAt.shaped (toP v) = true := by
  obtain ⟨a, b⟩ := toP_can 60 v h
  unfold SeqAt.shaped
  rw [a]
  simp only [Bool.true_and, decide_eq_true_eq]
  omega
theorem rd_dp (K : PySem.W.Frag) {r w : List Addr} {h : MH} {H : Hp} {v : MV} {u : V} (R : Rel K r w h H) (q : VR K r w H v u) (d : isD 60 (rdM h v) = true) : Dp K H u (toP (rdM h v)) := by
  cases v with
  | ref n =>
    simp only [rdM] at d ⊢
    simp only [VR] at q
    obtain ⟨a, rfl, hn⟩ := q
    cases e : h[n]? with
    | none => simp [e, isD] at d
    | some c =>
      have hc := R.at_ n a c hn e
      cases c <;> simp only [e] at d ⊢ <;> first | (simp [isD] at d; done) | skip
      simp only [CRel] at hc
      obtain ⟨us, h1, h2⟩ := hc
      simp only [toP]
      refine Dp.lst (.inl (.inl h1)) ?_
      simp only [isD] at d
      exact toPs_dp K _ _ 59 d h2
  | non => exact toP_dp K _ _ 60 d q
  | bl _ => exact toP_dp K _ _ 60 d q
  | int _ => exact toP_dp K _ _ 60 d q
  | str _ => exact toP_dp K _ _ 60 d q
  | tup _ => exact toP_dp K _ _ 60 d q
  | lst _ => exact toP_dp K _ _ 60 d q
  | scr _ => simp [rdM, isD] at d
  | dK _ => simp [rdM, isD] at d
  | dT _ => simp [rdM, isD] at d
section
variable {K : PySem.W.Frag} {X : Cx} {e a b c : Expr} {m ma mb mc : XE} {pos : Pos} {es : List Expr} {mas : XA}
theorem c_eq {k : Nat} (hr : Room k X.A) (ha : ME X a ma) (hb : ME X b mb) : ME X (.Compare a [.Eq] [b] pos) (xOp opEq ma mb) ∧ MT X (.Compare a [.Eq] [b] pos) (xB (xOp opEq ma mb)) := c_cmp (op_eqD hr.units) (fun r w h H x y v u1 u2 Q R V1 V2 e C => by
  unfold opEq eqM at e
  split at e
  · rename_i d
    rw [Bool.and_eq_true] at d
    simp only [Option.map_some, Option.some.injEq] at e
    subst e
    refine ⟨_, _, rd_dp X.K R V1 d.1, rd_dp X.K R V2 d.2, shaped_of d.1, shaped_of d.2, C.now R ?_⟩
    simp only [VR]
    rw [toP_eqv _ _ 60 d.1 d.2]
  · cases e) ha hb (nomark _)
theorem c_ne {k : Nat} (hr : Room k X.A) (ha : ME X a ma) (hb : ME X b mb) : ME X (.Compare a [.NotEq] [b] pos) (xOp opNe ma mb) ∧ MT X (.Compare a [.NotEq] [b] pos) (xB (xOp opNe ma mb)) := c_cmp (op_neD hr.units) (fun r w h H x y v u1 u2 Q R V1 V2 e C => by
  unfold opNe eqM at e
  split at e
  · rename_i d
    rw [Bool.and_eq_true] at d
    simp only [Option.map_some, Option.some.injEq] at e
    subst e
    refine ⟨_, _, rd_dp X.K R V1 d.1, rd_dp X.K R V2 d.2, shaped_of d.1, shaped_of d.2, C.now R ?_⟩
    simp only [VR]
    rw [toP_eqv _ _ 60 d.1 d.2]
  · cases e) ha hb (nomark _)
/-! ### reading lists, dicts -/
theorem list_sq (K : PySem.W.Frag) {r w : List Addr} {h : MH} {H : Hp} {v : MV} {u : V} {xs : List MV} (R : Rel K r w h H) (q : VR K r w H v u) (e : listOf h v = some xs) : ∃ p us, u = .ref p ∧ SqL K H p us ∧ VRs K r w H xs us := by
  cases v <;> simp only [listOf, reduceCtorEq, Option.some.injEq] at e
  · subst e
    simp only [VR] at q
    obtain ⟨p, us, rfl, _, t, q⟩ := q
    exact ⟨p, us, rfl, .inl (.inl t), q⟩
  · subst e
    simp only [VR] at q
    obtain ⟨p, rfl, t⟩ := q
    rcases t with ⟨_, o, t⟩ | t
    · exact ⟨p, _, rfl, .inl (.inr ⟨o, t⟩), VRs.ints _⟩
    · exact ⟨p, _, rfl, .inr t, VRs.ints _⟩
  · rename_i n
    simp only [VR] at q
    obtain ⟨p, rfl, hn⟩ := q
    cases e1 : h[n]? with
    | none => simp [e1] at e
    | some c =>
      have hc := R.at_ n p c hn e1
      cases c <;> simp only [e1, reduceCtorEq, Option.some.injEq] at e
      subst e
      simp only [CRel] at hc
      obtain ⟨us, h1, h2⟩ := hc
      exact ⟨p, us, rfl, .inl (.inl h1), h2⟩
theorem seq_sq (K : PySem.W.Frag) {r w : List Addr} {h : MH} {H : Hp} {v : MV} {u : V} {xs : List MV} (R : Rel K r w h H) (q : VR K r w H v u) (e : seqOf h v = some xs) : ∃ p us, u = .ref p ∧ (SqL K H p us ∨ SqT K H p us) ∧ VRs K r w H xs us := by
  cases v with
  | tup ys =>
    simp only [seqOf, Option.some.injEq] at e
    subst e
    simp only [VR] at q
    obtain ⟨p, us, rfl, t, q⟩ := q
    exact ⟨p, us, rfl, .inr t.sq, q⟩
  | _ => exact (fun ⟨p, us, e1, e2, e3⟩ => ⟨p, us, e1, .inl e2, e3⟩) (list_sq K R q (by simpa [seqOf] using e))
theorem dictK_rd {r w : List Addr} {h : MH} {H : Hp} {v : MV} {u : V} {xs : List (MK × MV)} (R : Rel K r w h H) (q : VR K r w H v u) (e : dictK h v = some xs) : ∃ p us, u = .ref p ∧ Rd H p (.dK us) ∧ VRk K r w H xs us := by
  cases v <;> simp only [dictK, reduceCtorEq, Option.some.injEq] at e
  · subst e
    simp only [VR] at q
    obtain ⟨p, us, rfl, _, t, q⟩ := q
    exact ⟨p, us, rfl, t, q⟩
  · rename_i n
    simp only [VR] at q
    obtain ⟨p, rfl, hn⟩ := q
    cases e1 : h[n]? with
    | none => simp [e1] at e
    | some c =>
      have hc := R.at_ n p c hn e1
      cases c <;> simp only [e1, reduceCtorEq, Option.some.injEq] at e
      · subst e
        simp only [CRel] at hc
        obtain ⟨us, h1, h2⟩ := hc
        exact ⟨p, us, rfl, .inl h1, h2⟩
      · subst e
        simp only [CRel] at hc
        obtain ⟨o, us, h1, h2⟩ := hc
        exact ⟨p, us, rfl, .inr ⟨o, h1⟩, h2⟩
theorem dictT_rd {r w : List Addr} {h : MH} {H : Hp} {v : MV} {u : V} {xs : List (List MK × MV)} (R : Rel K r w h H) (q : VR K r w H v u) (e : dictT h v = some xs) : ∃ p us, u = .ref p ∧ Rd H p (.dT us) ∧ VRt K r w H xs us := by
  cases v <;> simp only [dictT, reduceCtorEq, Option.some.injEq] at e
  · subst e
    simp only [VR] at q
    obtain ⟨p, us, rfl, _, t, q⟩ := q
    exact ⟨p, us, rfl, t, q⟩
  · rename_i n
    simp only [VR] at q
    obtain ⟨p, rfl, hn⟩ := q
    cases e1 : h[n]? with
    | none => simp [e1] at e
    | some c =>
      have hc := R.at_ n p c hn e1
      cases c <;> simp only [e1, reduceCtorEq, Option.some.injEq] at e
      · subst e
        simp only [CRel] at hc
        obtain ⟨us, h1, h2⟩ := hc
        exact ⟨p, us, rfl, .inl h1, h2⟩
      · subst e
        simp only [CRel] at hc
        obtain ⟨o, us, h1, h2⟩ := hc
        exact ⟨p, us, rfl, .inr ⟨o, h1⟩, h2⟩
theorem key_kV {r w : List Addr} {H : Hp} {v : MV} {u : V} {k : MK} (q : VR K r w H v u) (e : keyOf v = some k) : u = kV k := by
  cases v <;> simp [keyOf] at e <;> subst e <;> simp only [VR] at q <;> exact q
theorem keys_kV {r w : List Addr} {H : Hp} : ∀ {vs : List MV} {us : List V} {ks : List MK}, VRs K r w H vs us → keysOf vs = some ks → us = ks.map kV
  | [], us, ks, q, e => by
    simp [keysOf] at e; subst e
    simp only [VRs] at q; subst q; rfl
  | v :: vs, us, ks, q, e => by
    simp only [VRs] at q
    obtain ⟨u, t, rfl, q1, q2⟩ := q
    simp only [keysOf] at e
    split at e
    · rename_i k ks' e1 e2
      simp at e; subst e
      rw [key_kV q1 e1, keys_kV q2 e2]; rfl
    · cases e
/-- what a dict has, read -/
theorem look_get {r w : List Addr} {h : MH} {H : Hp} {d k : MV} {u1 u2 : V} {o : Option MV} (R : Rel K r w h H) (V1 : VR K r w H d u1) (V2 : VR K r w H k u2) (e : lookM h d k = some o) :
    ∃ p, u1 = .ref p ∧ ((o = none ∧ DGet H p u2 none) ∨ ∃ x u, o = some x ∧ DGet H p u2 (some u) ∧ VR K r w H x u) := by
  unfold lookM at e
  split at e
  · rename_i ks
    split at e
    · rename_i kvs kk e1 e2
      simp at e; subst e
      obtain ⟨p, us, rfl, h1, h2⟩ := dictT_rd R V1 e1
      simp only [VR] at V2
      obtain ⟨b, ws, rfl, t, q⟩ := V2
      have e3 := keys_kV q e2
      subst e3
      refine ⟨p, rfl, ?_⟩
      rcases VRt.get kk h2 with ⟨g1, g2⟩ | ⟨x, u, g1, g2, g3⟩
      · exact .inl ⟨g1, .inr ⟨us, kk, b, h1, rfl, t.2, g2.symm⟩⟩
      · exact .inr ⟨x, u, g1, .inr ⟨us, kk, b, h1, rfl, t.2, g2.symm⟩, g3⟩
    · cases e
  · split at e
    · rename_i kvs kk e1 e2
      simp at e; subst e
      obtain ⟨p, us, rfl, h1, h2⟩ := dictK_rd R V1 e1
      have e3 := key_kV V2 e2
      subst e3
      refine ⟨p, rfl, ?_⟩
      rcases VRk.get kk h2 with ⟨g1, g2⟩ | ⟨x, u, g1, g2, g3⟩
      · exact .inl ⟨g1, .inl ⟨us, kk, h1, rfl, g2.symm⟩⟩
      · exact .inr ⟨x, u, g1, .inl ⟨us, kk, h1, rfl, g2.symm⟩, g3⟩
    · cases e
theorem flat_of {r w : List Addr} {H : Hp} {v : MV} {u : V} (q : VR K r w H v u) (f : flatM v = true) : flatV u = true := by
  cases v <;> simp [flatM] at f <;> simp only [VR] at q <;> subst q <;> rfl
theorem flats_of {r w : List Addr} {H : Hp} : ∀ {vs : List MV} {us : List V}, VRs K r w H vs us → vs.all flatM = true → us.all flatV = true
  | [], us, q, _ => by simp only [VRs] at q; subst q; rfl
  | v :: vs, us, q, f => by
    simp only [VRs] at q
    obtain ⟨u, t, rfl, q1, q2⟩ := q
    rw [List.all_cons, Bool.and_eq_true] at f ⊢
    exact ⟨flat_of q1 f.1, flats_of q2 f.2⟩
theorem feq_of {r w : List Addr} {H : Hp} {x y : MV} {u v : V} (q1 : VR K r w H x u) (q2 : VR K r w H y v) (f1 : flatM x = true) (f2 : flatM y = true) : eqV v u = feqM y x := by
  cases x <;> simp [flatM] at f1 <;> simp only [VR] at q1 <;> subst q1 <;> cases y <;> simp [flatM] at f2 <;> simp only [VR] at q2 <;> subst q2 <;> rfl
theorem in_of {r w : List Addr} {H : Hp} {x : MV} {u : V} (q1 : VR K r w H x u) (f1 : flatM x = true) : ∀ {vs : List MV} {us : List V}, VRs K r w H vs us → vs.all flatM = true → inV u us = vs.any fun y => feqM y x
  | [], us, q, _ => by simp only [VRs] at q; subst q; rfl
  | v :: vs, us, q, f => by
    simp only [VRs] at q
    obtain ⟨u', t, rfl, q2, q3⟩ := q
    rw [List.all_cons, Bool.and_eq_true] at f
    have ih := in_of q1 f1 q3 f.2
    unfold inV at ih ⊢
    rw [List.any_cons, List.any_cons, ih, feq_of q1 q2 f1 f.1]
theorem xOp_at {f : MH → MV → MV → Option MV} {s : SM} {h h' : MH} {v : MV} (e : xOp f ma mb s h = some (v, h')) : ∃ x h1 y, ma s h = some (x, h1) ∧ mb s h1 = some (y, h') ∧ f h' x y = some v := by
  unfold xOp at e
  cases e1 : ma s h with
  | none => simp [e1] at e
  | some p1 =>
    obtain ⟨x, h1⟩ := p1
    simp only [e1] at e
    cases e2 : mb s h1 with
    | none => simp [e2] at e
    | some p2 =>
      obtain ⟨y, h2⟩ := p2
      simp only [e2] at e
      cases e3 : f h2 x y with
      | none => simp [e3] at e
      | some v' =>
        simp only [e3, Option.some.injEq, Prod.mk.injEq] at e
        obtain ⟨rfl, rfl⟩ := e
        exact ⟨x, h1, y, rfl, e2, e3⟩
/-- two expressions, then R of their values -/
theorem two_at {r w : List Addr} {s : SM} {z : L2.St} {h h1 h2 : MH} {H : Hp} {x y : MV} {T : V → V → Hp → Prop} (R : Rel K r w h H) (S : SR K r w H s z) (e1 : ma s h = some (x, h1)) (e2 : mb s h1 = some (y, h2))
    (k : ∀ r2 u1 u2 H2, Fwd r H r2 H2 → Rel K r2 w h2 H2 → VR K r2 w H2 x u1 → VR K r2 w H2 y u2 → T u1 u2 H2) : tM K ma z H fun u1 H1 => tM K mb z H1 fun u2 H2 => T u1 u2 H2 :=
  ⟨r, w, s, h, x, h1, R, S, e1, fun r1 u1 H1 F1 R1 V1 => ⟨r1, w, s, h1, y, h2, R1, S.fwd F1, e2, fun r2 u2 H2 F2 R2 V2 => k r2 u1 u2 H2 (F1.tr R1 F2) R2 (VR.fwd F2 _ _ V1) V2⟩⟩
theorem c_in {k : Nat} (hr : Room k X.A) (ha : ME X a ma) (hb : ME X b mb) (hm : behindInMarks .In b = false := by rfl) : ME X (.Compare a [.In] [b] pos) (xOp opIn ma mb) ∧ MT X (.Compare a [.In] [b] pos) (xB (xOp opIn ma mb)) := by
  have main : ∀ z H Q, tM X.K (xOp opIn ma mb) z H Q → tOp (rIn X.K false) (tM X.K ma) (tM X.K mb) z H Q ∨ tDIn (tM X.K ma) (tM X.K mb) z H Q := by
   rintro z H Q ⟨r, w, s, h, v, h', R, S, e, C⟩
   obtain ⟨x, h1, y, e1, e2, e3⟩ := xOp_at e
   unfold opIn at e3
   cases e4 : seqOf h' y with
   | some xs =>
     rw [e4] at e3
     refine .inl (two_at R S e1 e2 fun r2 u1 u2 H2 F R2 V1 V2 => ?_)
     obtain ⟨p, us, rfl, sq, q⟩ := seq_sq X.K R2 V2 e4
     simp only [inSeq] at e3
     split at e3
     · rename_i f
       rw [Bool.and_eq_true] at f
       simp only [Option.map_some, Option.some.injEq] at e3
       subst e3
       exact ⟨p, us, rfl, sq, flat_of V1 f.1, flats_of q f.2, C r2 _ H2 F R2 (by simp only [VR, Bool.false_eq_true, if_false]; rw [in_of V1 f.1 q f.2])⟩
     · cases e3
   | none =>
     rw [e4] at e3
     refine .inr (two_at R S e1 e2 fun r2 u1 u2 H2 F R2 V1 V2 => ?_)
     simp only at e3
     cases e5 : lookM h' y x with
     | none => simp [e5] at e3
     | some o =>
       simp only [e5, Option.map_some, Option.some.injEq] at e3
       subst e3
       obtain ⟨p, rfl, g⟩ := look_get R2 V2 V1 e5
       rcases g with ⟨rfl, g⟩ | ⟨x', u, rfl, g, _⟩
       · exact ⟨p, none, rfl, g, C r2 _ H2 F R2 (by simp [VR])⟩
       · exact ⟨p, some u, rfl, g, C r2 _ H2 F R2 (by simp [VR])⟩
  exact ⟨PE.wk (PE.or2 (pe_cmpR op_in_seq ha hb hm) (pe_cmp (pc_din (hu_of hr) ha hb) hm)) main,
    PT.wk (PT.or2 (pt_cmpR op_in_seq ha hb hm) (pt_cmp (pc_din (hu_of hr) ha hb) hm)) fun z H Q q => main z H _ (tB_wk z H Q q)⟩
theorem c_notin {k : Nat} (hr : Room k X.A) (ha : ME X a ma) (hb : ME X b mb) (hm : behindInMarks .NotIn b = false := by rfl) : ME X (.Compare a [.NotIn] [b] pos) (xOp opNotIn ma mb) ∧ MT X (.Compare a [.NotIn] [b] pos) (xB (xOp opNotIn ma mb)) := by
  have main : ∀ z H Q, tM X.K (xOp opNotIn ma mb) z H Q → tOp (rIn X.K true) (tM X.K ma) (tM X.K mb) z H Q ∨ tDNotIn (tM X.K ma) (tM X.K mb) z H Q := by
   rintro z H Q ⟨r, w, s, h, v, h', R, S, e, C⟩
   obtain ⟨x, h1, y, e1, e2, e3⟩ := xOp_at e
   unfold opNotIn at e3
   cases e4 : seqOf h' y with
   | some xs =>
     rw [e4] at e3
     refine .inl (two_at R S e1 e2 fun r2 u1 u2 H2 F R2 V1 V2 => ?_)
     obtain ⟨p, us, rfl, sq, q⟩ := seq_sq X.K R2 V2 e4
     simp only [inSeq] at e3
     split at e3
     · rename_i f
       rw [Bool.and_eq_true] at f
       simp only [Option.map_some, Option.some.injEq] at e3
       subst e3
       exact ⟨p, us, rfl, sq, flat_of V1 f.1, flats_of q f.2, C r2 _ H2 F R2 (by simp only [VR, if_true]; rw [in_of V1 f.1 q f.2])⟩
     · cases e3
   | none =>
     rw [e4] at e3
     refine .inr (two_at R S e1 e2 fun r2 u1 u2 H2 F R2 V1 V2 => ?_)
     simp only at e3
     cases e5 : lookM h' y x with
     | none => simp [e5] at e3
     | some o =>
       simp only [e5, Option.map_some, Option.some.injEq] at e3
       subst e3
       obtain ⟨p, rfl, g⟩ := look_get R2 V2 V1 e5
       rcases g with ⟨rfl, g⟩ | ⟨x', u, rfl, g, _⟩
       · exact ⟨p, none, rfl, g, C r2 _ H2 F R2 (by simp [VR])⟩
       · exact ⟨p, some u, rfl, g, C r2 _ H2 F R2 (by simp [VR])⟩
  exact ⟨PE.wk (PE.or2 (pe_cmpR op_notIn_seq ha hb hm) (pe_cmp (pc_dnotin (hu_of hr) ha hb) hm)) main,
    PT.wk (PT.or2 (pt_cmpR op_notIn_seq ha hb hm) (pt_cmp (pc_dnotin (hu_of hr) ha hb) hm)) fun z H Q q => main z H _ (tB_wk z H Q q)⟩
theorem me_ix {k : Nat} (hr : Room k X.A) (ha : ME X a ma) (hb : ME X b mb) (hs : PlainIx b := by exact fun _ _ => rfl) : ME X (.Subscript a b pos) (xOp opIx ma mb) :=
  PE.wk (PE.or2 (pe_ix (ix_list.or ix_tup) ha hb hs) (pe_dget (hu_of hr) ha hb hs)) fun z H Q ⟨r, w, s, h, v, h', R, S, e, C⟩ => by
  obtain ⟨x, h1, y, e1, e2, e3⟩ := xOp_at e
  unfold opIx at e3
  cases e4 : seqOf h' x with
  | some xs =>
    rw [e4] at e3
    refine .inl (two_at R S e1 e2 fun r2 u1 u2 H2 F R2 V1 V2 => ?_)
    cases y <;> simp only [reduceCtorEq] at e3
    obtain ⟨p, us, rfl, sq, q⟩ := seq_sq X.K R2 V1 e4
    obtain ⟨u, q1, q2⟩ := VRs.at_ q e3
    simp only [VR] at V2
    subst V2
    rcases sq with sq | sq
    · exact .inl ⟨p, us, _, u, rfl, rfl, sq, q1, C r2 u H2 F R2 q2⟩
    · exact .inr ⟨p, us, _, u, rfl, rfl, sq, q1, C r2 u H2 F R2 q2⟩
  | none =>
    rw [e4] at e3
    simp only at e3
    refine .inr (two_at R S e1 e2 fun r2 u1 u2 H2 F R2 V1 V2 => ?_)
    split at e3
    · rename_i v' e5
      simp only [Option.some.injEq] at e3
      subst e3
      obtain ⟨p, rfl, g⟩ := look_get R2 V1 V2 e5
      rcases g with ⟨q, _⟩ | ⟨x', u, q, g, q2⟩
      · cases q
      · cases q
        exact ⟨p, u, rfl, g, C r2 u H2 F R2 q2⟩
    · cases e3
/-! ### arguments, displays, built-ins -/
theorem ma_nil : MA X [] xNil := ⟨PA.wk pa_nil fun z H Q ⟨r, w, s, h, v, h', R, S, e, C⟩ => by
  simp only [xNil, Option.some.injEq, Prod.mk.injEq] at e
  obtain ⟨rfl, rfl⟩ := e
  exact C r [] H (Fwd.refl r H) R (by simp [VRs]), fun s h vs h' e => by
  simp only [xNil, Option.some.injEq, Prod.mk.injEq] at e
  obtain ⟨rfl, rfl⟩ := e
  rfl⟩
theorem xCons_at {s : SM} {h h' : MH} {vs : List MV} (e : xCons ma mas s h = some (vs, h')) : ∃ x h1 xs, ma s h = some (x, h1) ∧ mas s h1 = some (xs, h') ∧ vs = x :: xs := by
  unfold xCons at e
  cases e1 : ma s h with
  | none => simp [e1] at e
  | some p1 =>
    obtain ⟨x, h1⟩ := p1
    simp only [e1] at e
    cases e2 : mas s h1 with
    | none => simp [e2] at e
    | some p2 =>
      obtain ⟨xs, h2⟩ := p2
      simp only [e2, Option.some.injEq, Prod.mk.injEq] at e
      obtain ⟨rfl, rfl⟩ := e
      exact ⟨x, h1, xs, rfl, e2, rfl⟩
theorem ma_cons (ha : ME X e ma) (hb : MA X es mas) (hs : starEach (e :: es) X.env = (false, eval e X.env) :: starEach es X.env := by rfl) : MA X (e :: es) (xCons ma mas) := ⟨PA.wk (pa_cons ha hb.pa hs) fun z H Q ⟨r, w, s, h, v, h', R, S, e, C⟩ => by
  obtain ⟨x, h1, xs, e1, e2, rfl⟩ := xCons_at e
  exact ⟨r, w, s, h, x, h1, R, S, e1, fun r1 u1 H1 F1 R1 V1 => ⟨r1, w, s, h1, xs, h', R1, S.fwd F1, e2, fun r2 us H2 F2 R2 V2 => C r2 _ H2 (F1.tr R1 F2) R2 (by
    simp only [VRs]; exact ⟨u1, us, rfl, VR.fwd F2 _ _ V1, V2⟩)⟩⟩, fun s h vs h' e => by
  obtain ⟨x, h1, xs, e1, e2, rfl⟩ := xCons_at e
  simp [hb.len s h1 xs h' e2]⟩
theorem me_tup {x1} (h : MA X es mas) (hn : es.length ≤ 1000 := by decide) : ME X (.Tuple es x1 pos) (xTup mas) := PE.wk (pe_tup h.pa) fun z H Q ⟨r, w, s, hh, v, h', R, S, e, C⟩ => by
  unfold xTup at e
  cases e1 : mas s hh with
  | none => simp [e1] at e
  | some p1 =>
    obtain ⟨xs, h1⟩ := p1
    simp only [e1, Option.some.injEq, Prod.mk.injEq] at e
    obtain ⟨rfl, rfl⟩ := e
    refine ⟨r, w, s, hh, xs, h1, R, S, e1, fun r1 us H1 F1 R1 V1 => ⟨?_, fun p hp => (C.fwd F1 R1).tup R1 hp V1⟩⟩
    rw [← VRs.length V1, h.len s hh xs h1 e1]
    exact Nat.le_of_lt (small1000 hn)
theorem mf_lst (h : MA X es mas) (hn : es.length ≤ 1000 := by decide) : MF X (.List es pos) (xLst mas) := PE.wk (pe_lst h.pa) fun z H Q ⟨r, w, s, hh, v, h', R, S, e, C⟩ => by
  unfold xLst at e
  cases e1 : mas s hh with
  | none => simp [e1] at e
  | some p1 =>
    obtain ⟨xs, h1⟩ := p1
    simp only [e1, Option.some.injEq, Prod.mk.injEq] at e
    obtain ⟨rfl, rfl⟩ := e
    refine ⟨r, w, s, hh, xs, h1, R, S, e1, fun r1 us H1 F1 R1 V1 => ⟨?_, fun p hp => (C.fwd F1 R1).lst R1 hp V1⟩⟩
    rw [← VRs.length V1, h.len s hh xs h1 e1]
    exact Nat.le_of_lt (small1000 hn)
theorem mf_dnewK : MF X (.Dict [] [] pos) (xC (.dK [])) := PE.wk pe_dnewK fun z H Q ⟨r, w, s, hh, v, h', R, S, e, C⟩ p hp => by
  simp only [xC, Option.some.injEq, Prod.mk.injEq] at e
  obtain ⟨rfl, rfl⟩ := e
  exact C r p _ (Fwd.new r hp) hp (R.hold hp) (by simp only [VF]; exact ⟨[], upd_same, by simp [VRk]⟩)
theorem mf_dnewT : MF X (.Dict [] [] pos) (xC (.dT [])) := PE.wk pe_dnewT fun z H Q ⟨r, w, s, hh, v, h', R, S, e, C⟩ p hp => by
  simp only [xC, Option.some.injEq, Prod.mk.injEq] at e
  obtain ⟨rfl, rfl⟩ := e
  exact C r p _ (Fwd.new r hp) hp (R.hold hp) (by simp only [VF]; exact ⟨[], upd_same, by simp [VRt]⟩)
theorem xArgs_at {f : MH → List MV → Option MV} {s : SM} {h h' : MH} {v : MV} (e : xArgs f mas s h = some (v, h')) : ∃ xs, mas s h = some (xs, h') ∧ f h' xs = some v := by
  unfold xArgs at e
  cases e1 : mas s h with
  | none => simp [e1] at e
  | some p1 =>
    obtain ⟨xs, h1⟩ := p1
    simp only [e1] at e
    cases e2 : f h1 xs with
    | none => simp [e2] at e
    | some v' =>
      simp only [e2, Option.some.injEq, Prod.mk.injEq] at e
      obtain ⟨rfl, rfl⟩ := e
      exact ⟨xs, rfl, e2⟩
/-- a built-in function of arguments that changes nothing -/
theorem me_b {id : String} {x : Str} {p : Pos} {f : MH → List MV → Option MV} {t : List V → Hp → VK → Prop} (hc : CallR X (.builtin id) t) (hr : ∀ r w h H xs v us Q, Rel X.K r w h H → VRs X.K r w H xs us → f h xs = some v → Cont X.K r w h H v Q → t us H Q)
    (hv : bootBuiltins x = some (.builtin id)) (hm : X.mg x = none) (ha : MA X (e :: es) mas) (hg : Gl X x := by rfl) (hn : x ≠ "__name__" := by decide +kernel) (hdb : (x == ("__debug__" : Str)) = false := by decide +kernel)
    (he : starEach (e :: es) X.env = (false, eval e X.env) :: starEach es X.env := by rfl) (hpl : (backTo pos (starEach es X.env)).any (·.1) = false := by rfl) : ME X (.Call (.Name x p) (e :: es) [] pos) (xArgs f mas) :=
  PE.wk (pe_callB hc hg hm hv ha.pa hn hdb he hpl) fun z H Q ⟨r, w, s, h, v, h', R, S, e, C⟩ => by
  obtain ⟨xs, e1, e2⟩ := xArgs_at e
  exact ⟨r, w, s, h, xs, h', R, S, e1, fun r1 us H1 F1 R1 V1 => hr r1 w h' H1 xs v us Q R1 V1 e2 (C.fwd F1 R1)⟩
theorem me_t {T : String} {x : Str} {p : Pos} {f : MH → List MV → Option MV} {t : List V → Hp → VK → Prop} (hc : CallR X (.type T) t) (hr : ∀ r w h H xs v us Q, Rel X.K r w h H → VRs X.K r w H xs us → f h xs = some v → Cont X.K r w h H v Q → t us H Q)
    (hv : bootBuiltins x = some (.type T)) (hm : X.mg x = none) (ha : MA X (e :: es) mas) (hg : Gl X x := by rfl) (hn : x ≠ "__name__" := by decide +kernel) (hdb : (x == ("__debug__" : Str)) = false := by decide +kernel)
    (he : starEach (e :: es) X.env = (false, eval e X.env) :: starEach es X.env := by rfl) (hpl : (backTo pos (starEach es X.env)).any (·.1) = false := by rfl) : ME X (.Call (.Name x p) (e :: es) [] pos) (xArgs f mas) :=
  PE.wk (pe_callTy hc hg hm hv ha.pa hn hdb he hpl) fun z H Q ⟨r, w, s, h, v, h', R, S, e, C⟩ => by
  obtain ⟨xs, e1, e2⟩ := xArgs_at e
  exact ⟨r, w, s, h, xs, h', R, S, e1, fun r1 us H1 F1 R1 V1 => hr r1 w h' H1 xs v us Q R1 V1 e2 (C.fwd F1 R1)⟩
theorem mf_t {T : String} {x : Str} {p : Pos} {f : MH → List MV → Option MV} {t : List V → Hp → VK → Prop} (hc : CallR X (.type T) t) (hr : ∀ r w h H xs v us Q, Rel X.K r w h H → VRs X.K r w H xs us → f h xs = some v → ContF X.K r w h H v Q → t us H Q)
    (hv : bootBuiltins x = some (.type T)) (hm : X.mg x = none) (ha : MA X (e :: es) mas) (hg : Gl X x := by rfl) (hn : x ≠ "__name__" := by decide +kernel) (hdb : (x == ("__debug__" : Str)) = false := by decide +kernel)
    (he : starEach (e :: es) X.env = (false, eval e X.env) :: starEach es X.env := by rfl) (hpl : (backTo pos (starEach es X.env)).any (·.1) = false := by rfl) : MF X (.Call (.Name x p) (e :: es) [] pos) (xArgs f mas) :=
  PE.wk (pe_callTy hc hg hm hv ha.pa hn hdb he hpl) fun z H Q ⟨r, w, s, h, v, h', R, S, e, C⟩ => by
  obtain ⟨xs, e1, e2⟩ := xArgs_at e
  exact ⟨r, w, s, h, xs, h', R, S, e1, fun r1 us H1 F1 R1 V1 => hr r1 w h' H1 xs v us Q R1 V1 e2 (C.fwd F1 R1)⟩
theorem vrs1 {r w : List Addr} {H : Hp} {x : MV} {us : List V} (q : VRs K r w H [x] us) : ∃ u, us = [u] ∧ VR K r w H x u := by
  simp only [VRs] at q
  obtain ⟨u, t, rfl, q, rfl⟩ := q
  exact ⟨u, rfl, q⟩
theorem vrs2 {r w : List Addr} {H : Hp} {x y : MV} {us : List V} (q : VRs K r w H [x, y] us) : ∃ u v, us = [u, v] ∧ VR K r w H x u ∧ VR K r w H y v := by
  simp only [VRs] at q
  obtain ⟨u, t, rfl, q, u2, t2, rfl, q2, rfl⟩ := q
  exact ⟨u, u2, rfl, q, q2⟩
theorem me_abs {p : Pos} (hm : X.mg "abs" = none) (ha : MA X (e :: es) mas) (hg : Gl X "abs" := by rfl) (he : starEach (e :: es) X.env = (false, eval e X.env) :: starEach es X.env := by rfl) (hpl : (backTo pos (starEach es X.env)).any (·.1) = false := by rfl) :
    ME X (.Call (.Name "abs" p) (e :: es) [] pos) (xArgs fAbs mas) := me_b call_abs (fun r w h H xs v us Q R V e C => by
  unfold fAbs at e
  split at e
  · simp at e; subst e
    obtain ⟨u, rfl, q⟩ := vrs1 V
    simp only [VR] at q; subst q
    exact ⟨_, rfl, C.now R (by simp only [VR])⟩
  · cases e) (by decide +kernel) hm ha hg (by decide +kernel) (by decide +kernel) he hpl
theorem me_max2 {p : Pos} (hm : X.mg "max" = none) (ha : MA X (e :: es) mas) (hc : X.calm = true := by rfl) (hg : Gl X "max" := by rfl) (he : starEach (e :: es) X.env = (false, eval e X.env) :: starEach es X.env := by rfl) (hpl : (backTo pos (starEach es X.env)).any (·.1) = false := by rfl) :
    ME X (.Call (.Name "max" p) (e :: es) [] pos) (xArgs fMax2 mas) := me_b (call_max2 hc) (fun r w h H xs v us Q R V e C => by
  unfold fMax2 at e
  split at e
  · simp at e; subst e
    obtain ⟨u, u', rfl, q, q'⟩ := vrs2 V
    simp only [VR] at q q'; subst q; subst q'
    exact ⟨_, _, rfl, C.now R (by simp only [VR])⟩
  · cases e) (by decide +kernel) hm ha hg (by decide +kernel) (by decide +kernel) he hpl
theorem me_min2 {p : Pos} (hm : X.mg "min" = none) (ha : MA X (e :: es) mas) (hc : X.calm = true := by rfl) (hg : Gl X "min" := by rfl) (he : starEach (e :: es) X.env = (false, eval e X.env) :: starEach es X.env := by rfl) (hpl : (backTo pos (starEach es X.env)).any (·.1) = false := by rfl) :
    ME X (.Call (.Name "min" p) (e :: es) [] pos) (xArgs fMin2 mas) := me_b (call_min2 hc) (fun r w h H xs v us Q R V e C => by
  unfold fMin2 at e
  split at e
  · simp at e; subst e
    obtain ⟨u, u', rfl, q, q'⟩ := vrs2 V
    simp only [VR] at q q'; subst q; subst q'
    exact ⟨_, _, rfl, C.now R (by simp only [VR])⟩
  · cases e) (by decide +kernel) hm ha hg (by decide +kernel) (by decide +kernel) he hpl
end
end Ew
end

section
set_option Elab.async false
set_option linter.all false
set_option maxRecDepth 100000
set_option maxHeartbeats 4000000
/-! EwE: built-ins, methods, statements, loops, calls. -/
namespace Ew
open PySem PySem.Spec PyProof.Rows L2
section
variable {K : PySem.W.Frag} {X : Cx}
/-- len of a dict with tuple keys, locked or not -/
theorem call_len_dTR : CallR X (.builtin "len") (fun xs H Q => ∃ (p : Addr) (kvs : List (List Key × V)), xs = [.ref p] ∧ Rd H p (.dT kvs) ∧ Q (.int ((kvs.length : Nat) : Int)) H) := by
  intro pins s z H xs us Q I r h
  obtain ⟨p, kvs, rfl, hp, q⟩ := h
  obtain ⟨u, rfl, ru⟩ := vals1 r
  obtain rfl : u = Value.ref p := ru
  obtain ⟨hz, lo, ys, rk, hd⟩ := dt_rd I.hok hp
  have hl : kvs.length = ys.length := Paired.length rk
  refine call_len_dictH lo hd (by rw [sizeLine_eq] at hz; omega) ?_
  exact ⟨.int ((kvs.length : Nat) : Int), H, I.tok _, ⟨_, by rw [hl]⟩, q⟩
theorem call_len_dKR : CallR X (.builtin "len") (fun xs H Q => ∃ (p : Addr) (kvs : List (Key × V)), xs = [.ref p] ∧ Rd H p (.dK kvs) ∧ Q (.int ((kvs.length : Nat) : Int)) H) := by
  intro pins s z H xs us Q I r h
  obtain ⟨a, kvs, rfl, ha, q⟩ := h
  obtain ⟨u, rfl, ru⟩ := vals1 r
  cases ru
  exact d_len I ha fun t s' I' => ⟨.int kvs.length, H, I', ⟨t, rfl⟩, q⟩
end
section
variable {K : PySem.W.Frag} {X : Cx} {e a b c o : Expr} {m ma mb mc mo : XE} {pos p : Pos} {es : List Expr} {mas : XA}
theorem me_len (hm : X.mg "len" = none) (ha : MA X (e :: es) mas) (hg : Gl X "len" := by rfl) (he : starEach (e :: es) X.env = (false, eval e X.env) :: starEach es X.env := by rfl) (hpl : (backTo pos (starEach es X.env)).any (·.1) = false := by rfl) :
    ME X (.Call (.Name "len" p) (e :: es) [] pos) (xArgs fLen mas) := me_b (call_len_seq.or (call_len_dKR.or call_len_dTR)) (fun r w h H xs v us Q R V e C => by
  unfold fLen at e
  split at e
  · rename_i v'
    obtain ⟨u, rfl, q⟩ := vrs1 V
    split at e
    · rename_i ys e1
      simp only [Option.some.injEq] at e; subst e
      obtain ⟨p, ws, rfl, sq, q2⟩ := seq_sq X.K R q e1
      exact .inl ⟨p, ws, rfl, sq, C.now R (by simp only [VR]; rw [VRs.length q2])⟩
    · split at e
      · rename_i kvs e1
        simp only [Option.some.injEq] at e; subst e
        obtain ⟨p, ws, rfl, sq, q2⟩ := dictK_rd R q e1
        exact .inr (.inl ⟨p, ws, rfl, sq, C.now R (by simp only [VR]; rw [VRk.length q2])⟩)
      · split at e
        · rename_i kvs e1
          simp only [Option.some.injEq] at e; subst e
          obtain ⟨p, ws, rfl, sq, q2⟩ := dictT_rd R q e1
          exact .inr (.inr ⟨p, ws, rfl, sq, C.now R (by simp only [VR]; rw [VRt.length q2])⟩)
        · cases e
  · cases e) PySem.boot_len hm ha hg (by decide +kernel) (by decide +kernel) he hpl
theorem mf_list (hm : X.mg "list" = none) (ha : MA X (e :: es) mas) (hg : Gl X "list" := by rfl) (he : starEach (e :: es) X.env = (false, eval e X.env) :: starEach es X.env := by rfl) (hpl : (backTo pos (starEach es X.env)).any (·.1) = false := by rfl) :
    MF X (.Call (.Name "list" p) (e :: es) [] pos) (xArgs fList mas) := mf_t call_list_of (fun r w h H xs v us Q R V e C => by
  unfold fList at e
  split at e
  · rename_i v'
    obtain ⟨u, rfl, q⟩ := vrs1 V
    cases e1 : seqOf h v' with
    | none => simp [e1] at e
    | some ys =>
      simp only [e1, Option.map_some, Option.some.injEq] at e; subst e
      obtain ⟨p, ws, rfl, sq, q2⟩ := seq_sq X.K R q e1
      exact ⟨p, ws, rfl, sq, fun l hl => C.lst R hl q2⟩
  · cases e) (by decide +kernel) hm ha hg (by decide +kernel) (by decide +kernel) he hpl
theorem me_tuple (hm : X.mg "tuple" = none) (ha : MA X (e :: es) mas) (hg : Gl X "tuple" := by rfl) (he : starEach (e :: es) X.env = (false, eval e X.env) :: starEach es X.env := by rfl) (hpl : (backTo pos (starEach es X.env)).any (·.1) = false := by rfl) :
    ME X (.Call (.Name "tuple" p) (e :: es) [] pos) (xArgs fTuple mas) := me_t call_tuple_of (fun r w h H xs v us Q R V e C => by
  unfold fTuple at e
  split at e
  · rename_i v'
    obtain ⟨u, rfl, q⟩ := vrs1 V
    cases v' with
    | tup ys =>
      simp only [seqOf, Option.map_some, Option.some.injEq] at e; subst e
      have q' := q
      simp only [VR] at q'
      obtain ⟨p, ws, rfl, t, q2⟩ := q'
      exact ⟨p, ws, rfl, .inr ⟨t.sq, C.now R q⟩⟩
    | _ => exact (fun (e1 : (listOf h _).map MV.tup = some v) => by
        cases e2 : listOf h _ with
        | none => rw [e2] at e1; cases e1
        | some ys =>
          rw [e2] at e1
          simp only [Option.map_some, Option.some.injEq] at e1; subst e1
          obtain ⟨p, ws, rfl, sq, q2⟩ := list_sq X.K R q e2
          exact ⟨p, ws, rfl, .inl ⟨sq, fun l hl => C.tup R hl q2⟩⟩) (by simpa [seqOf] using e)
  · cases e) (by decide +kernel) hm ha hg (by decide +kernel) (by decide +kernel) he hpl
theorem bools_of {r w : List Addr} {H : Hp} : ∀ {vs : List MV} {us : List V} {bs : List Bool}, VRs K r w H vs us → boolsOf vs = some bs → us = bs.map V.bl
  | [], us, bs, q, e => by
    simp [boolsOf] at e; subst e
    simp only [VRs] at q; subst q; rfl
  | v :: vs, us, bs, q, e => by
    simp only [VRs] at q
    obtain ⟨u, t, rfl, q1, q2⟩ := q
    cases v <;> simp only [boolsOf, reduceCtorEq] at e
    cases e2 : boolsOf vs with
    | none => simp [e2] at e
    | some cs =>
      simp only [e2, Option.map_some, Option.some.injEq] at e; subst e
      simp only [VR] at q1
      rw [q1, bools_of q2 e2]; rfl
theorem ints_of {r w : List Addr} {H : Hp} : ∀ {vs : List MV} {us : List V} {bs : List Int}, VRs K r w H vs us → intsOf vs = some bs → us = bs.map V.int
  | [], us, bs, q, e => by
    simp [intsOf] at e; subst e
    simp only [VRs] at q; subst q; rfl
  | v :: vs, us, bs, q, e => by
    simp only [VRs] at q
    obtain ⟨u, t, rfl, q1, q2⟩ := q
    cases v <;> simp only [intsOf, reduceCtorEq] at e
    cases e2 : intsOf vs with
    | none => simp [e2] at e
    | some cs =>
      simp only [e2, Option.map_some, Option.some.injEq] at e; subst e
      simp only [VR] at q1
      rw [q1, ints_of q2 e2]; rfl
theorem me_all (hm : X.mg "all" = none) (ha : MA X (e :: es) mas) (hc : X.calm = true := by rfl) (hg : Gl X "all" := by rfl) (he : starEach (e :: es) X.env = (false, eval e X.env) :: starEach es X.env := by rfl) (hpl : (backTo pos (starEach es X.env)).any (·.1) = false := by rfl) :
    ME X (.Call (.Name "all" p) (e :: es) [] pos) (xArgs fAll mas) := me_b (cr_all hc) (fun r w h H xs v us Q R V e C => by
  unfold fAll at e
  split at e
  · rename_i v'
    obtain ⟨u, rfl, q⟩ := vrs1 V
    split at e
    · rename_i ys e1
      cases e2 : boolsOf ys with
      | none => simp [e2] at e
      | some bs =>
        simp only [e2, Option.map_some, Option.some.injEq] at e; subst e
        obtain ⟨p, ws, rfl, sq, q2⟩ := list_sq X.K R q e1
        have e3 := bools_of q2 e2
        subst e3
        exact ⟨p, bs, rfl, sq, C.now R (by simp only [VR])⟩
    · cases e
  · cases e) (by decide +kernel) hm ha hg (by decide +kernel) (by decide +kernel) he hpl
theorem tyX_of (K : PySem.W.Frag) {r w : List Addr} {h : MH} {H : Hp} {v : MV} {u : V} {t : String} (R : Rel K r w h H) (q : VR K r w H v u) (e : tyN h v = some t) : TyX K H u (.type t) := by
  cases v <;> simp only [tyN, reduceCtorEq, Option.some.injEq] at e
  · subst e; simp only [VR] at q; subst q; exact .base .non
  · subst e; simp only [VR] at q; subst q; exact .base (.bl _)
  · subst e; simp only [VR] at q; subst q; exact .base (.int _)
  · subst e; simp only [VR] at q; subst q; exact .base (.str _)
  · subst e; simp only [VR] at q; obtain ⟨a, us, rfl, t, _⟩ := q; exact .base (.tup t.2)
  · subst e; simp only [VR] at q; obtain ⟨a, us, rfl, _, t, _⟩ := q; exact .base (.lst t)
  · subst e; simp only [VR] at q; obtain ⟨a, rfl, t⟩ := q
    rcases t with ⟨_, o, t⟩ | ⟨o, its, n, t, c, _⟩
    · exact .base (.frz t)
    · exact .kList t c
  · subst e; simp only [VR] at q; obtain ⟨a, us, rfl, _, t, _⟩ := q
    rcases t with t | ⟨o, t⟩
    · exact .base (.dK t)
    · exact .fDict t
  · rename_i n
    simp only [VR] at q
    obtain ⟨a, rfl, hn⟩ := q
    cases e1 : h[n]? with
    | none => simp [e1] at e
    | some c =>
      have hc := R.at_ n a c hn e1
      cases c <;> simp only [e1, reduceCtorEq, Option.some.injEq] at e <;> subst e <;> simp only [CRel] at hc
      · obtain ⟨us, t, _⟩ := hc; exact .base (.lst t)
      · obtain ⟨us, t, _⟩ := hc; exact .base (.dK t)
      · obtain ⟨us, t, _⟩ := hc; exact .base (.dT t)
      · obtain ⟨o, us, t, _⟩ := hc; exact .fDict t
/-- isinstance(e, t), t a built-in type -/
theorem me_isi {t : Str} {tn : String} {p1 p2 : Pos} (hm : X.mg "isinstance" = none) (he : ME X e m) (hm2 : X.mg t = none) (hv2 : bootBuiltins t = some (.type tn)) (hk : ∀ x ∈ ["NoneType", "bool", "int", "str", "tuple", "list", "dict"], kitB x tn = some (subTy x tn))
    (hg : Gl X "isinstance" := by rfl) (hg2 : Gl X t := by rfl) (hn2 : t ≠ "__name__" := by decide +kernel) (hd2 : (t == ("__debug__" : Str)) = false := by decide +kernel)
    (hs : starEach (e :: [.Name t p2]) X.env = (false, eval e X.env) :: starEach [.Name t p2] X.env := by rfl) : ME X (.Call (.Name "isinstance" p1) [e, .Name t p2] [] pos) (xArgs (fIsi tn) (xCons m xNil)) :=
  PE.wk (pe_callB call_isi hg hm (by decide +kernel) (pa_cons he (pa_cons (pe_bltn (v := .ty tn) hg2 hm2 hv2 rfl hn2 hd2) pa_nil) hs) (by decide +kernel) (by decide +kernel) hs) fun z H Q ⟨r, w, s, h, v, h', R, S, e, C⟩ => by
  obtain ⟨xs, e1, e2⟩ := xArgs_at e
  obtain ⟨x, h1, ys, e3, e4, rfl⟩ := xCons_at e1
  simp only [xNil, Option.some.injEq, Prod.mk.injEq] at e4
  obtain ⟨rfl, rfl⟩ := e4
  refine ⟨r, w, s, h, x, h1, R, S, e3, fun r1 u1 H1 F1 R1 V1 => ?_⟩
  simp only [fIsi] at e2
  split at e2
  · rename_i a e5
    simp only [Option.some.injEq] at e2; subst e2
    refine ⟨u1, .ty tn, .type a, .type tn, subTy a tn, rfl, .ty tn, tyX_of X.K R1 V1 e5, kit_ty (hk a ?_), C r1 _ H1 F1 R1 (by simp only [VR])⟩
    unfold tyN at e5
    split at e5 <;> first | (simp only [Option.some.injEq] at e5; subst e5; decide) | cases e5 | skip
    split at e5 <;> first | (simp only [Option.some.injEq] at e5; subst e5; decide) | cases e5
  · cases e2
theorem me_neg (ha : ME X a ma) : ME X (.UnaryOp .USub a pos) (xUn opNeg ma) := PE.wk (pe_un un_neg ha) fun z H Q ⟨r, w, s, h, v, h', R, S, e, C⟩ => by
  unfold xUn at e
  cases e1 : ma s h with
  | none => simp [e1] at e
  | some p1 =>
    obtain ⟨x, h1⟩ := p1
    simp only [e1] at e
    cases x <;> simp only [opNeg, reduceCtorEq, Option.some.injEq, Prod.mk.injEq] at e
    obtain ⟨rfl, rfl⟩ := e
    exact ⟨r, w, s, h, _, h1, R, S, e1, fun r1 u H1 F1 R1 V1 => by
      simp only [VR] at V1
      exact ⟨_, V1, C r1 _ H1 F1 R1 (by simp only [VR])⟩⟩
/-! ### and, or, not, if -/
theorem me_and {rest : List Expr} (ha : ME X a ma) (hb : ME X (.BoolOp .And (b :: rest) pos) mb) : ME X (.BoolOp .And (a :: b :: rest) pos) (xAnd ma mb) := PE.wk (pe_and ha hb) fun z H Q ⟨r, w, s, h, v, h', R, S, e, C⟩ => by
  unfold xAnd at e
  split at e
  · rename_i h1 e1
    exact ⟨r, w, s, h, _, h1, R, S, e1, fun r1 u H1 F1 R1 V1 => by
      simp only [VR] at V1
      exact ⟨true, V1, iteT ⟨r1, w, s, h1, v, h', R1, S.fwd F1, e, C.fwd F1 R1⟩⟩⟩
  · rename_i h1 e1
    simp only [Option.some.injEq, Prod.mk.injEq] at e
    obtain ⟨rfl, rfl⟩ := e
    exact ⟨r, w, s, h, _, h1, R, S, e1, fun r1 u H1 F1 R1 V1 => by
      simp only [VR] at V1
      exact ⟨false, V1, iteF (C r1 _ H1 F1 R1 (by simp only [VR]))⟩⟩
  · cases e
theorem me_or {rest : List Expr} (ha : ME X a ma) (hb : ME X (.BoolOp .Or (b :: rest) pos) mb) : ME X (.BoolOp .Or (a :: b :: rest) pos) (xOr ma mb) := PE.wk (pe_or ha hb) fun z H Q ⟨r, w, s, h, v, h', R, S, e, C⟩ => by
  unfold xOr at e
  split at e
  · rename_i h1 e1
    simp only [Option.some.injEq, Prod.mk.injEq] at e
    obtain ⟨rfl, rfl⟩ := e
    exact ⟨r, w, s, h, _, h1, R, S, e1, fun r1 u H1 F1 R1 V1 => by
      simp only [VR] at V1
      exact ⟨true, V1, iteT (C r1 _ H1 F1 R1 (by simp only [VR]))⟩⟩
  · rename_i h1 e1
    exact ⟨r, w, s, h, _, h1, R, S, e1, fun r1 u H1 F1 R1 V1 => by
      simp only [VR] at V1
      exact ⟨false, V1, iteF ⟨r1, w, s, h1, v, h', R1, S.fwd F1, e, C.fwd F1 R1⟩⟩⟩
  · cases e
theorem me_one {op} (ha : ME X a ma) : ME X (.BoolOp op [a] pos) ma := pe_one ha
theorem me_not (ha : ME X a ma) : ME X (.UnaryOp .Not a pos) (xNot ma) := PE.wk (pe_not ha) fun z H Q ⟨r, w, s, h, v, h', R, S, e, C⟩ => by
  unfold xNot at e
  split at e
  · rename_i k h1 e1
    simp only [Option.some.injEq, Prod.mk.injEq] at e
    obtain ⟨rfl, rfl⟩ := e
    exact ⟨r, w, s, h, _, h1, R, S, e1, fun r1 u H1 F1 R1 V1 => by
      simp only [VR] at V1
      exact ⟨k, V1, C r1 _ H1 F1 R1 (by simp only [VR])⟩⟩
  · cases e
variable {ta tb tc : XT}
theorem me_if (hc : MT X c tc) (ha : ME X a ma) (hb : ME X b mb) : ME X (.IfExp c a b pos) (xIf tc ma mb) := PE.wk (pe_ifExp hc ha hb) fun z H Q ⟨r, w, s, h, v, h', R, S, e, C⟩ => by
  unfold xIf at e
  split at e
  · cases e
  · rename_i h1 e1
    exact ⟨r, w, s, h, _, h1, R, S, e1, fun r1 H1 F1 R1 => iteT ⟨r1, w, s, h1, v, h', R1, S.fwd F1, e, C.fwd F1 R1⟩⟩
  · rename_i h1 e1
    exact ⟨r, w, s, h, _, h1, R, S, e1, fun r1 H1 F1 R1 => iteF ⟨r1, w, s, h1, v, h', R1, S.fwd F1, e, C.fwd F1 R1⟩⟩
theorem mw_and1 (ha : MT X a ta) : MW X (.BoolOp .And [a] pos) ta := pw_and1 ha
theorem mw_or1 (ha : MT X a ta) : MW X (.BoolOp .Or [a] pos) ta := pw_or1 ha
theorem mw_and {rest : List Expr} (ha : MT X a ta) (hb : MW X (.BoolOp .And (b :: rest) pos) tb) : MW X (.BoolOp .And (a :: b :: rest) pos) (xAndT ta tb) := PW.wk (pw_and ha hb) fun z H Q ⟨r, w, s, h, v, h', R, S, e, C⟩ => by
  unfold xAndT at e
  split at e
  · cases e
  · rename_i h1 e1
    exact ⟨r, w, s, h, _, h1, R, S, e1, fun r1 H1 F1 R1 => iteT ⟨r1, w, s, h1, v, h', R1, S.fwd F1, e, fun r2 H2 F2 R2 => C r2 H2 (F1.tr R1 F2) R2⟩⟩
  · rename_i h1 e1
    simp only [Option.some.injEq, Prod.mk.injEq] at e
    obtain ⟨rfl, rfl⟩ := e
    exact ⟨r, w, s, h, _, h1, R, S, e1, fun r1 H1 F1 R1 => iteF (C r1 H1 F1 R1)⟩
theorem mw_or {rest : List Expr} (ha : MT X a ta) (hb : MW X (.BoolOp .Or (b :: rest) pos) tb) : MW X (.BoolOp .Or (a :: b :: rest) pos) (xOrT ta tb) := PW.wk (pw_or ha hb) fun z H Q ⟨r, w, s, h, v, h', R, S, e, C⟩ => by
  unfold xOrT at e
  split at e
  · cases e
  · rename_i h1 e1
    simp only [Option.some.injEq, Prod.mk.injEq] at e
    obtain ⟨rfl, rfl⟩ := e
    exact ⟨r, w, s, h, _, h1, R, S, e1, fun r1 H1 F1 R1 => iteT (C r1 H1 F1 R1)⟩
  · rename_i h1 e1
    exact ⟨r, w, s, h, _, h1, R, S, e1, fun r1 H1 F1 R1 => iteF ⟨r1, w, s, h1, v, h', R1, S.fwd F1, e, fun r2 H2 F2 R2 => C r2 H2 (F1.tr R1 F2) R2⟩⟩
theorem mt_not (ha : MT X a ta) : MT X (.UnaryOp .Not a pos) (xNotT ta) := PT.wk (pt_not ha) fun z H Q ⟨r, w, s, h, v, h', R, S, e, C⟩ => by
  unfold xNotT at e
  cases e1 : ta s h with
  | none => simp [e1] at e
  | some p1 =>
    obtain ⟨k, h1⟩ := p1
    simp only [e1, Option.some.injEq, Prod.mk.injEq] at e
    obtain ⟨rfl, rfl⟩ := e
    exact ⟨r, w, s, h, _, h1, R, S, e1, fun r1 H1 F1 R1 => C r1 H1 F1 R1⟩
/-! ### slices -/
theorem mo_none : MO X none xNoPart := ⟨fun pins s z H Q I ⟨r, w, s', h, v, h', R, S, e, C⟩ => po_none.run pins s z H Q I (by
  simp only [xNoPart, Option.some.injEq, Prod.mk.injEq] at e
  obtain ⟨rfl, rfl⟩ := e
  exact C r H (Fwd.refl r H) R)⟩
theorem mo_some (he : ME X e m) : MO X (some e) (xPart m) := ⟨fun pins s z H Q I ⟨r, w, s', h, v, h', R, S, e, C⟩ => (po_some he).run pins s z H Q I (by
  unfold xPart at e
  split at e
  · rename_i i h1 e1
    simp only [Option.some.injEq, Prod.mk.injEq] at e
    obtain ⟨rfl, rfl⟩ := e
    exact ⟨r, w, s', h, _, h1, R, S, e1, fun r1 u H1 F1 R1 V1 => by
      simp only [VR] at V1
      exact ⟨i, V1, C r1 H1 F1 R1⟩⟩
  · cases e)⟩
theorem mf_slL {lo hi : Option Expr} {ml mh : XO} {p2 : Pos} (he : ME X e m) (hl : MO X lo ml) (hh : MO X hi mh) : MF X (.Subscript e (.Slice lo hi none p2) pos) (xSlL m ml mh) := PE.wk (pe_slice sl_list he hl hh) fun z H Q ⟨r, w, s, h, v, h', R, S, e, C⟩ => by
  unfold xSlL at e
  cases e1 : m s h with
  | none => simp [e1] at e
  | some p1 =>
    obtain ⟨x, h1⟩ := p1
    simp only [e1] at e
    cases e2 : ml s h1 with
    | none => simp [e2] at e
    | some p2 =>
      obtain ⟨l, h2⟩ := p2
      simp only [e2] at e
      cases e3 : mh s h2 with
      | none => simp [e3] at e
      | some p3 =>
        obtain ⟨u, h3⟩ := p3
        simp only [e3] at e
        cases e4 : listOf h3 x with
        | none => simp [e4] at e
        | some xs =>
          simp only [e4, Option.some.injEq, Prod.mk.injEq] at e
          obtain ⟨rfl, rfl⟩ := e
          refine ⟨r, w, s, h, x, h1, R, S, e1, fun r1 u1 H1 F1 R1 V1 => ⟨r1, w, s, h1, l, h2, R1, S.fwd F1, e2, fun r2 H2 F2 R2 => ⟨r2, w, s, h2, u, h3, R2, (S.fwd F1).fwd F2, e3, fun r3 H3 F3 R3 => ?_⟩⟩⟩
          obtain ⟨p, us, rfl, sq, q⟩ := list_sq X.K R3 (VR.fwd F3 _ _ (VR.fwd F2 _ _ V1)) e4
          refine ⟨p, us, rfl, sq, fun l' hl' => (((C.fwd F1 R1).fwd F2 R2).fwd F3 R3).lst R3 hl' ?_⟩
          show VRs X.K r3 w H3 (cutM xs l u) (cutV us l u)
          unfold cutM cutV
          rw [← VRs.length q]
          exact VRs.take _ (VRs.drop _ q)
/-! ### methods of lists -/
theorem ref_at {r w : List Addr} {h : MH} {H : Hp} {n : Nat} {u : V} {xs : List MV} (R : Rel K r w h H) (q : VR K r w H (.ref n) u) (e : h[n]? = some (.lst xs)) : ∃ a us, u = .ref a ∧ r[n]? = some a ∧ H a = some (.lst us) ∧ VRs K r w H xs us := by
  simp only [VR] at q
  obtain ⟨a, rfl, hn⟩ := q
  have hc := R.at_ n a _ hn e
  simp only [CRel] at hc
  obtain ⟨us, h1, h2⟩ := hc
  exact ⟨a, us, rfl, hn, h1, h2⟩
theorem put_lst {r w : List Addr} {h : MH} {H : Hp} {n : Nat} {a : Addr} {xs : List MV} {us : List V} {v : MV} {u : V} {Q : VK} (R : Rel K r w h H) (hn : r[n]? = some a) (q : VRs K r w H xs us) (hv : VR K r w H v u) (C : Cont K r w (h.set n (.lst xs)) H v Q) (nf : ∀ ob u, H a ≠ some (.frz ob u)) : Q u (upd H a (.lst us)) :=
  C r u _ (Fwd.put hn _ nf) (R.put hn (c := .lst xs) (by simp only [CRel]; exact ⟨us, upd_same, VRs.map (Stp.put hn _) _ _ q⟩)) (VR.map (Stp.put hn _) _ _ hv)
theorem szl : szLine = sizeLine := by rw [sizeLine_eq]; rfl
theorem lst_here {r w : List Addr} {h : MH} {H : Hp} {n : Nat} {u : V} (R : Rel K r w h H) (q : VR K r w H (.ref n) u) (e : isLstC h n = true) : ∃ a us, u = .ref a ∧ H a = some (.lst us) := by
  unfold isLstC at e
  split at e
  · rename_i xs e1
    obtain ⟨a, us, e2, _, e3, _⟩ := ref_at R q e1
    exact ⟨a, us, e2, e3⟩
  · cases e
theorem me_append {apos : Pos} (ho : ME X o mo) (he : ME X e m) (hbase : attributeBase o "append" X.env (eval o X.env) = eval o X.env := by rfl)
    (hfew : ((backTo pos (starEach [e] X.env)).all (fun x => !x.1) && (backToKw pos (keywordEach [] X.env)).all (fun x => x.1.isSome) && decide ([e].length + ([] : List Keyword).length + (if ([] : List Keyword).isEmpty then 0 else 1) < 30)) = true := by rfl)
    (hline : (apos.endLine == pos.line) = true := by rfl) (hs : starEach (e :: []) X.env = (false, eval e X.env) :: starEach [] X.env := by rfl) (hpl : (backTo pos (starEach [] X.env)).any (·.1) = false := by rfl) :
    ME X (.Call (.Attribute o "append" apos) [e] [] pos) (xAppend mo m) := PE.wk (pe_bm PySem.F.plainAttrs_list PySem.F.slot_list_append PySem.F.type_list_append mt_append ho (pa_cons he pa_nil hs) hbase hfew hline hs hpl) fun z H Q ⟨r, w, s, h, v, h', R, S, e, C⟩ => by
  unfold xAppend at e
  split at e
  · rename_i n h1 e1
    split at e
    · rename_i hL
      split at e
      · rename_i y h2 e2
        split at e
        · rename_i xs e3
          split at e
          · rename_i hl
            simp only [Option.some.injEq, Prod.mk.injEq] at e
            obtain ⟨rfl, rfl⟩ := e
            refine ⟨r, w, s, h, _, h1, R, S, e1, fun r1 u1 H1 F1 R1 V1 => ?_⟩
            obtain ⟨a, us0, rfl, hL1⟩ := lst_here R1 V1 hL
            refine ⟨.inl ⟨rfl, _, SqL.of hL1⟩, r1, w, s, h1, y, h2, R1, S.fwd F1, e2, fun r2 u2 H2 F2 R2 V2 => ?_⟩
            obtain ⟨a', us, e4, hn2, ha, q⟩ := ref_at R2 (VR.fwd F2 _ _ V1) e3
            cases e4
            refine ⟨a, us, u2, rfl, rfl, ha, ?_, put_lst R2 hn2 (VRs.append q (VRs.one V2)) (by simp only [VR]) ((C.fwd F1 R1).fwd F2 R2) (fun _ _ z => by rw [ha] at z; cases z)⟩
            rw [← VRs.length q, ← szl]; exact hl
          · cases e
        · cases e
      · cases e
    · cases e
  · cases e
theorem me_extend {apos : Pos} (ho : ME X o mo) (he : ME X e m) (hbase : attributeBase o "extend" X.env (eval o X.env) = eval o X.env := by rfl)
    (hfew : ((backTo pos (starEach [e] X.env)).all (fun x => !x.1) && (backToKw pos (keywordEach [] X.env)).all (fun x => x.1.isSome) && decide ([e].length + ([] : List Keyword).length + (if ([] : List Keyword).isEmpty then 0 else 1) < 30)) = true := by rfl)
    (hline : (apos.endLine == pos.line) = true := by rfl) (hs : starEach (e :: []) X.env = (false, eval e X.env) :: starEach [] X.env := by rfl) (hpl : (backTo pos (starEach [] X.env)).any (·.1) = false := by rfl) :
    ME X (.Call (.Attribute o "extend" apos) [e] [] pos) (xExtend mo m) := PE.wk (pe_bm PySem.F.plainAttrs_list PySem.F.slot_list_extend PySem.F.type_list_extend mt_extend ho (pa_cons he pa_nil hs) hbase hfew hline hs hpl) fun z H Q ⟨r, w, s, h, v, h', R, S, e, C⟩ => by
  unfold xExtend at e
  split at e
  · rename_i n h1 e1
    split at e
    · rename_i hL
      split at e
      · rename_i ys h2 e2
        split at e
        · rename_i xs e3
          split at e
          · rename_i hl
            simp only [Option.some.injEq, Prod.mk.injEq] at e
            obtain ⟨rfl, rfl⟩ := e
            refine ⟨r, w, s, h, _, h1, R, S, e1, fun r1 u1 H1 F1 R1 V1 => ?_⟩
            obtain ⟨a, us0, rfl, hL1⟩ := lst_here R1 V1 hL
            refine ⟨.inl ⟨rfl, _, SqL.of hL1⟩, r1, w, s, h1, _, h2, R1, S.fwd F1, e2, fun r2 u2 H2 F2 R2 V2 => ?_⟩
            obtain ⟨a', us, e4, hn2, ha, q⟩ := ref_at R2 (VR.fwd F2 _ _ V1) e3
            cases e4
            simp only [VR] at V2
            obtain ⟨b, ws, rfl, _, hb, q2⟩ := V2
            refine ⟨a, b, us, ws, rfl, rfl, ha, hb, ?_, put_lst R2 hn2 (VRs.append q q2) (by simp only [VR]) ((C.fwd F1 R1).fwd F2 R2) (fun _ _ z => by rw [ha] at z; cases z)⟩
            rw [← VRs.length q, ← VRs.length q2, ← szl]; exact hl
          · cases e
        · cases e
      · cases e
    · cases e
  · cases e
theorem me_pop {apos : Pos} (ho : ME X o mo) (hbase : attributeBase o "pop" X.env (eval o X.env) = eval o X.env := by rfl) (hline : (apos.endLine == pos.line) = true := by rfl) :
    ME X (.Call (.Attribute o "pop" apos) [] [] pos) (xPop mo) := PE.wk (pe_bm0 PySem.F.plainAttrs_list PySem.F.slot_list_pop PySem.F.type_list_pop mt_pop ho hbase hline) fun z H Q ⟨r, w, s, h, v, h', R, S, e, C⟩ => by
  unfold xPop at e
  split at e
  · rename_i n h1 e1
    split at e
    · rename_i xs e2
      split at e
      · rename_i y e3
        simp only [Option.some.injEq, Prod.mk.injEq] at e
        obtain ⟨rfl, rfl⟩ := e
        refine ⟨r, w, s, h, _, h1, R, S, e1, fun r1 u1 H1 F1 R1 V1 => ?_⟩
        obtain ⟨a, us, rfl, hn, ha, q⟩ := ref_at R1 V1 e2
        obtain ⟨u, q1, q2⟩ := VRs.get q e3
        refine ⟨.inl ⟨rfl, _, SqL.of ha⟩, a, us, u, rfl, rfl, ha, by rw [← VRs.length q]; exact q1, put_lst R1 hn (VRs.dropLast q) q2 (C.fwd F1 R1) (fun _ _ z => by rw [ha] at z; cases z)⟩
      · cases e
    · cases e
  · cases e
theorem me_popAt {apos : Pos} (ho : ME X o mo) (he : ME X e m) (hbase : attributeBase o "pop" X.env (eval o X.env) = eval o X.env := by rfl)
    (hfew : ((backTo pos (starEach [e] X.env)).all (fun x => !x.1) && (backToKw pos (keywordEach [] X.env)).all (fun x => x.1.isSome) && decide ([e].length + ([] : List Keyword).length + (if ([] : List Keyword).isEmpty then 0 else 1) < 30)) = true := by rfl)
    (hline : (apos.endLine == pos.line) = true := by rfl) (hs : starEach (e :: []) X.env = (false, eval e X.env) :: starEach [] X.env := by rfl) (hpl : (backTo pos (starEach [] X.env)).any (·.1) = false := by rfl) :
    ME X (.Call (.Attribute o "pop" apos) [e] [] pos) (xPopAt mo m) := PE.wk (pe_bm PySem.F.plainAttrs_list PySem.F.slot_list_pop PySem.F.type_list_pop mt_popAt ho (pa_cons he pa_nil hs) hbase hfew hline hs hpl) fun z H Q ⟨r, w, s, h, v, h', R, S, e, C⟩ => by
  unfold xPopAt at e
  split at e
  · rename_i n h1 e1
    split at e
    · rename_i hL
      split at e
      · rename_i i h2 e2
        split at e
        · rename_i xs e3
          split at e
          · rename_i hl
            split at e
            · rename_i j e4
              split at e
              · rename_i y e5
                simp only [Option.some.injEq, Prod.mk.injEq] at e
                obtain ⟨rfl, rfl⟩ := e
                refine ⟨r, w, s, h, _, h1, R, S, e1, fun r1 u1 H1 F1 R1 V1 => ?_⟩
                obtain ⟨a, us0, rfl, hL1⟩ := lst_here R1 V1 hL
                refine ⟨.inl ⟨rfl, _, SqL.of hL1⟩, r1, w, s, h1, _, h2, R1, S.fwd F1, e2, fun r2 u2 H2 F2 R2 V2 => ?_⟩
                obtain ⟨a', us, e6, hn2, ha, q⟩ := ref_at R2 (VR.fwd F2 _ _ V1) e3
                cases e6
                simp only [VR] at V2
                subst V2
                obtain ⟨u, q1, q2⟩ := VRs.get q e5
                refine ⟨a, us, i, j, u, rfl, rfl, ha, by omega, by omega, ?_, q1, put_lst R2 hn2 (VRs.eraseIdx j q) q2 ((C.fwd F1 R1).fwd F2 R2) (fun _ _ z => by rw [ha] at z; cases z)⟩
                rw [← VRs.length q]
                exact (ixN_seq (show ixN xs.length i = some j from e4)).1
              · cases e
            · cases e
          · cases e
        · cases e
      · cases e
    · cases e
  · cases e
end
end Ew
end

section
set_option Elab.async false
set_option linter.all false
set_option maxRecDepth 100000
set_option maxHeartbeats 4000000
/-! EwF: statements, loops, comprehensions, defs. -/
namespace Ew
open PySem PySem.Spec PyProof.Rows L2
section
variable {K : PySem.W.Frag} {X : Cx} {e a b c o i : Expr} {m ma mb mc mo mi : XE} {pos p : Pos} {es : List Expr} {mas : XA} {st : Stmt} {sts sts2 : List Stmt} {x y : XS} {ta : XT} {g : XG} {gs : XGs} {tg : Expr}
theorem ms_nil : MSs X [] sNext := PSs.wk pss_nil fun D z H ⟨r, w, s, h, f, s', h', R, S, e, C⟩ => by
  simp only [sNext, Option.some.injEq, Prod.mk.injEq] at e
  obtain ⟨rfl, rfl, rfl⟩ := e
  exact ContS.now C R S
theorem ms_pass : MS X (.Pass pos) sNext := PS.wk ps_pass fun D z H ⟨r, w, s, h, f, s', h', R, S, e, C⟩ => by
  simp only [sNext, Option.some.injEq, Prod.mk.injEq] at e
  obtain ⟨rfl, rfl, rfl⟩ := e
  exact ContS.now C R S
theorem ms_doc {t : Str} {j : Nat} {p2 : Pos} : MS X (.Expr (.Constant (.str t) j p2) pos) sNext := PS.wk ps_doc fun D z H ⟨r, w, s, h, f, s', h', R, S, e, C⟩ => by
  simp only [sNext, Option.some.injEq, Prod.mk.injEq] at e
  obtain ⟨rfl, rfl, rfl⟩ := e
  exact ContS.now C R S
theorem ms_one (h : MS X st x) : MSs X [st] x := pss_one h
theorem ms_cons (h1 : MS X st x) (h2 : MSs X sts y) : MSs X (st :: sts) (sSeq x y) := PSs.wk (pss_cons h1 h2) fun D z H ⟨r, w, s, h, f, s', h', R, S, e, C⟩ => by
  unfold sSeq at e
  cases e1 : x s h with
  | none => simp [e1] at e
  | some p1 =>
    obtain ⟨f1, s1, h1⟩ := p1
    cases f1 with
    | nx =>
      simp only [e1] at e
      exact ⟨r, w, s, h, .nx, s1, h1, R, S, e1, fun r1 z1 H1 F1 R1 S1 => ⟨r1, w, s1, h1, f, s', h', R1, S1, e, EndS.fwd C F1 R1⟩⟩
    | rt v =>
      simp only [e1, Option.some.injEq, Prod.mk.injEq] at e
      obtain ⟨rfl, rfl, rfl⟩ := e
      exact ⟨r, w, s, h, .rt v, s1, h1, R, S, e1, C⟩
    | bk =>
      simp only [e1, Option.some.injEq, Prod.mk.injEq] at e
      obtain ⟨rfl, rfl, rfl⟩ := e
      exact ⟨r, w, s, h, .bk, s1, h1, R, S, e1, C⟩
    | ct =>
      simp only [e1, Option.some.injEq, Prod.mk.injEq] at e
      obtain ⟨rfl, rfl, rfl⟩ := e
      exact ⟨r, w, s, h, .ct, s1, h1, R, S, e1, C⟩
theorem ms_bk : MS X (.Break pos) sBk := PS.wk ps_break fun D z H ⟨r, w, s, h, f, s', h', R, S, e, C⟩ => by
  simp only [sBk, Option.some.injEq, Prod.mk.injEq] at e
  obtain ⟨rfl, rfl, rfl⟩ := e
  exact ContS.now C R S
theorem ms_ct : MS X (.Continue pos) sCt := PS.wk ps_continue fun D z H ⟨r, w, s, h, f, s', h', R, S, e, C⟩ => by
  simp only [sCt, Option.some.injEq, Prod.mk.injEq] at e
  obtain ⟨rfl, rfl, rfl⟩ := e
  exact ContS.now C R S
theorem ms_never : MS X st sNever := PS.wk ps_never fun D z H ⟨r, w, s, h, f, s', h', R, S, e, C⟩ => by simp [sNever] at e
theorem ms_expr (he : ME X e m) (hs : swapsWith e none pos.line X.env = pure false := by rfl) : MS X (.Expr e pos) (sExpr m) := PS.wk (ps_expr he hs) fun D z H ⟨r, w, s, h, f, s', h', R, S, e, C⟩ => by
  unfold sExpr at e
  cases e1 : m s h with
  | none => simp [e1] at e
  | some p1 =>
    obtain ⟨v, h1⟩ := p1
    simp only [e1, Option.some.injEq, Prod.mk.injEq] at e
    obtain ⟨rfl, rfl, rfl⟩ := e
    exact ⟨r, w, s, h, v, h1, R, S, e1, fun r1 u H1 F1 R1 V1 => C r1 z H1 F1 R1 (S.fwd F1)⟩
theorem ms_ret (he : ME X e m) : MS X (.Return (some e) pos) (sRet m) := PS.wk (ps_ret he) fun D z H ⟨r, w, s, h, f, s', h', R, S, e, C⟩ => by
  unfold sRet at e
  cases e1 : m s h with
  | none => simp [e1] at e
  | some p1 =>
    obtain ⟨v, h1⟩ := p1
    simp only [e1, Option.some.injEq, Prod.mk.injEq] at e
    obtain ⟨rfl, rfl, rfl⟩ := e
    exact ⟨r, w, s, h, v, h1, R, S, e1, C⟩
theorem ms_retN : MS X (.Return none pos) sRetN := PS.wk ps_retN fun D z H ⟨r, w, s, h, f, s', h', R, S, e, C⟩ => by
  simp only [sRetN, Option.some.injEq, Prod.mk.injEq] at e
  obtain ⟨rfl, rfl, rfl⟩ := e
  exact Cont.now C R (by simp only [VR])
theorem ms_if (hc : MT X c ta) (h1 : MSs X sts x) (h2 : MSs X sts2 y) : MS X (.If c sts sts2 pos) (sIf ta x y) := PS.wk (ps_if hc h1 h2) fun D z H ⟨r, w, s, h, f, s', h', R, S, e, C⟩ => by
  unfold sIf at e
  split at e
  · cases e
  · rename_i h1 e1
    exact ⟨r, w, s, h, _, h1, R, S, e1, fun r1 H1 F1 R1 => iteT ⟨r1, w, s, h1, f, s', h', R1, S.fwd F1, e, EndS.fwd C F1 R1⟩⟩
  · rename_i h1 e1
    exact ⟨r, w, s, h, _, h1, R, S, e1, fun r1 H1 F1 R1 => iteF ⟨r1, w, s, h1, f, s', h', R1, S.fwd F1, e, EndS.fwd C F1 R1⟩⟩
/-! ### targets -/
theorem PG.wk {t t' : TG} (h : PG X e t) (k : ∀ v z H Q, t' v z H Q → t v z H Q) : PG X e t' := ⟨fun pins s z H v u Q I r q => h.run pins s z H v u Q I r (k v z H Q q)⟩
theorem PGs.wk {t t' : TGs} (h : PGs X es t) (k : ∀ v z H Q, t' v z H Q → t v z H Q) : PGs X es t' := ⟨fun pins s z H v u Q I r q => h.run pins s z H v u Q I r (k v z H Q q)⟩
theorem mg_nm {n : Nat} {t : Str} (hN : X.N.Nodup) (hi : X.N[n]? = some t := by rfl) (hx : Loc X.env.scope t := by first | exact .inl rfl | exact .inr rfl) (hf : X.fn t = true ∨ X.env.scope.names.lookup t = some .local := by first | exact .inl rfl | exact .inr rfl) : MG X (.Name t pos) (gNm n) :=
  PG.wk (pg_name hN hi hx hf) fun u z H Q ⟨r, w, s, h, v, s', h', R, S, V, e, C⟩ => by
  simp only [gNm, Option.some.injEq, Prod.mk.injEq] at e
  obtain ⟨rfl, rfl⟩ := e
  exact C.now R (S.set n V)
theorem mgs_nil : MGs X [] gsNil := PGs.wk pgs_nil fun u z H Q ⟨r, w, s, h, v, s', h', R, S, V, e, C⟩ => by
  unfold gsNil at e
  split at e
  · simp only [Option.some.injEq, Prod.mk.injEq] at e
    obtain ⟨rfl, rfl⟩ := e
    simp only [VRs] at V
    exact ⟨V, C.now R S⟩
  · cases e
theorem mgs_cons (h1 : MG X e g) (h2 : MGs X es gs) (hs : (assignEach (e :: es) X.env).map (·.2) = assign e X.env :: (assignEach es X.env).map (·.2) := by rfl) : MGs X (e :: es) (gsCons g gs) := PGs.wk (pgs_cons h1 h2 hs) fun u z H Q ⟨r, w, s, h, v, s', h', R, S, V, e, C⟩ => by
  unfold gsCons at e
  split at e
  · rename_i v1 vs
    cases e1 : g v1 s h with
    | none => simp [e1] at e
    | some p1 =>
      obtain ⟨s1, h1⟩ := p1
      simp only [e1] at e
      simp only [VRs] at V
      obtain ⟨u1, t, rfl, V1, V2⟩ := V
      exact ⟨u1, t, rfl, r, w, s, h, v1, s1, h1, R, S, V1, e1, fun r1 z1 H1 F1 R1 S1 => ⟨r1, w, s1, h1, vs, s', h', R1, S1, VRs.fwd F1 _ _ V2, e, C.fwd F1 R1⟩⟩
  · cases e
theorem mg_tup {k n : Nat} (h : MGs X es gs) (hn : (assignEach es X.env).length = n := by rfl) (hst : (assignEach es X.env).findIdx? (·.1) = none := by rfl) (hc : X.calm = true := by rfl) : MG X (.Tuple es k pos) (gTp n gs) := PG.wk (pg_tup hc h hn hst) fun u z H Q ⟨r, w, s, h, v, s', h', R, S, V, e, C⟩ => by
  unfold gTp at e
  split at e
  · rename_i xs
    split at e
    · rename_i hl
      simp only [VR] at V
      obtain ⟨p, us, rfl, t, q⟩ := V
      exact ⟨p, us, rfl, t.sq, by rw [← VRs.length q]; exact hl, r, w, s, h, xs, s', h', R, S, q, e, C⟩
    · cases e
  · cases e
theorem ms_asg (he : ME X e m) (hg : MG X tg g) (hs : swapsWithSole [tg] e pos.line X.env = pure false := by rfl) (hw : swappedStores [tg] e X.env = pure none := by rfl) (h1 : (assignEach [tg] X.env).map (·.2) = [assign tg X.env] := by rfl) : MS X (.Assign [tg] e pos) (sAsg m g) := PS.wk (ps_asg he hg hs hw h1) fun D z H ⟨r, w, s, h, f, s', h', R, S, e, C⟩ => by
  unfold sAsg at e
  cases e1 : m s h with
  | none => simp [e1] at e
  | some p1 =>
    obtain ⟨v, h1⟩ := p1
    simp only [e1] at e
    cases e2 : g v s h1 with
    | none => simp [e2] at e
    | some p2 =>
      obtain ⟨s1, h2⟩ := p2
      simp only [e2, Option.some.injEq, Prod.mk.injEq] at e
      obtain ⟨rfl, rfl, rfl⟩ := e
      exact ⟨r, w, s, h, v, h1, R, S, e1, fun r1 u H1 F1 R1 V1 => ⟨r1, w, s, h1, v, _, _, R1, S.fwd F1, V1, e2, ContS.fwd C F1 R1⟩⟩
/-- o[k] = e -/
theorem stM_lst {r w : List Addr} {h h' : MH} {H : Hp} {d k v : MV} {u1 u2 u3 : V} {Q : Hp → Prop} (R : Rel K r w h H) (V1 : VR K r w H d u1) (V2 : VR K r w H k u2) (V3 : VR K r w H v u3) (e : stM h d k v = some h')
    (C : ∀ r' H', Fwd r H r' H' → Rel K r' w h' H' → Q H') : (∃ p us i j, u1 = .ref p ∧ u2 = .int i ∧ H p = some (.lst us) ∧ ixN us.length i = some j ∧ Q (upd H p (.lst (us.set j u3)))) ∨ ∃ a H4, u1 = .ref a ∧ DPut H a u2 u3 H4 ∧ Q H4 := by
  unfold stM at e
  split at e
  · rename_i n
    simp only [VR] at V1
    obtain ⟨a, rfl, hn⟩ := V1
    split at e
    · rename_i xs e1
      have hc := R.at_ n a _ hn e1
      simp only [CRel] at hc
      obtain ⟨us, ha, q⟩ := hc
      split at e
      · rename_i i
        split at e
        · rename_i j e2
          simp only [Option.some.injEq] at e; subst e
          simp only [VR] at V2
          refine .inl ⟨a, us, i, j, rfl, V2, ha, by rw [← VRs.length q]; exact e2, C r _ (Fwd.put hn _ (fun _ _ z => by rw [ha] at z; cases z)) (R.put hn (c := .lst _) ?_)⟩
          simp only [CRel]
          exact ⟨_, upd_same, VRs.set j (VRs.map (Stp.put hn _) _ _ q) (VR.map (Stp.put hn _) _ _ V3)⟩
        · cases e
      · cases e
    · rename_i kvs e1
      have hc := R.at_ n a _ hn e1
      simp only [CRel] at hc
      obtain ⟨us, ha, q⟩ := hc
      split at e
      · rename_i kk e2
        split at e
        · rename_i hl
          simp only [Option.some.injEq] at e; subst e
          have := key_kV V2 e2
          subst this
          refine .inr ⟨a, _, rfl, .inl ⟨us, kk, ha, rfl, by rw [← VRk.length q, ← szl]; exact hl, rfl⟩, C r _ (Fwd.put hn _ (fun _ _ z => by rw [ha] at z; cases z)) (R.put hn (c := .dK _) ?_)⟩
          simp only [CRel]
          exact ⟨_, upd_same, VRk.put kk (VR.map (Stp.put hn _) _ _ V3) (VRk.map (Stp.put hn _) _ _ q)⟩
        · cases e
      · cases e
    · rename_i kvs e1
      have hc := R.at_ n a _ hn e1
      simp only [CRel] at hc
      obtain ⟨us, ha, q⟩ := hc
      split at e
      · rename_i ks
        split at e
        · rename_i kk e2
          split at e
          · rename_i hl
            simp only [Option.some.injEq] at e; subst e
            simp only [VR] at V2
            obtain ⟨b, ws, rfl, t, q2⟩ := V2
            have := keys_kV q2 e2
            subst this
            refine .inr ⟨a, _, rfl, .inr ⟨us, kk, b, ha, rfl, t.2, by rw [← VRt.length q, ← szl]; exact hl, rfl⟩, C r _ (Fwd.put hn _ (fun _ _ z => by rw [ha] at z; cases z)) (R.put hn (c := .dT _) ?_)⟩
            simp only [CRel]
            exact ⟨_, upd_same, VRt.put kk (VR.map (Stp.put hn _) _ _ V3) (VRt.map (Stp.put hn _) _ _ q)⟩
          · cases e
        · cases e
      · cases e
    · cases e
  · cases e
theorem ms_put {k : Nat} {tpos : Pos} (hr : Room k X.A) (ho : ME X o mo) (hi : ME X i mi) (he : ME X e m) (hs : swapsWithSole [.Subscript o i tpos] e pos.line X.env = pure false := by rfl) (hw : swappedStores [.Subscript o i tpos] e X.env = pure none := by rfl)
    (ha : ∀ v, assign (.Subscript o i tpos) X.env v = (do
      let ov ← holding [v] (eval o X.env)
      let iv ← holding [v, ov] (eval i X.env)
      standAt tpos
      holding [v, ov, iv] (setItem ov iv v)
      release [v, ov, iv] []) := by intro _; rfl) (hs2 : swapsWith e (some (.Subscript o i tpos)) pos.line X.env = pure false := by rfl) : MS X (.Assign [.Subscript o i tpos] e pos) (sPut mo mi m) :=
  PS.wk (PS.or2 (ps_asg he (pg_sub ho hi set_list ha) hs hw) (ps_dput (hu_of hr) ho hi he hs2)) fun D z H ⟨r, w, s, h, f, s', h', R, S, e, C⟩ => by
  unfold sPut at e
  cases e1 : m s h with
  | none => simp [e1] at e
  | some p1 =>
    obtain ⟨v, h1⟩ := p1
    simp only [e1] at e
    cases e2 : mo s h1 with
    | none => simp [e2] at e
    | some p2 =>
      obtain ⟨d, h2⟩ := p2
      simp only [e2] at e
      cases e3 : mi s h2 with
      | none => simp [e3] at e
      | some p3 =>
        obtain ⟨kk, h3⟩ := p3
        simp only [e3] at e
        cases e4 : stM h3 d kk v with
        | none => simp [e4] at e
        | some h4 =>
          simp only [e4, Option.some.injEq, Prod.mk.injEq] at e
          obtain ⟨rfl, rfl, rfl⟩ := e
          -- which of the two rules, by the cell
          have key : ∀ r3 H3 u1 u2 u3, Fwd r H r3 H3 → Rel X.K r3 w h3 H3 → VR X.K r3 w H3 d u1 → VR X.K r3 w H3 kk u2 → VR X.K r3 w H3 v u3 → (rSetL u1 u2 u3 H3 fun H4 => D.nx z H4) ∨ ∃ a H4, u1 = .ref a ∧ DPut H3 a u2 u3 H4 ∧ D.nx z H4 := fun r3 H3 u1 u2 u3 F3 R3 V1 V2 V3 => by
            rcases stM_lst (Q := fun H4 => D.nx z H4) R3 V1 V2 V3 e4 (fun r4 H4 F4 R4 => C r4 z H4 (F3.tr R3 F4) R4 (S.fwd (F3.tr R3 F4))) with ⟨p, us, i, j, h1, h2, h3, h4, h5⟩ | q
            · exact .inl ⟨p, us, i, j, h1, h2, h3, h4, h5⟩
            · exact .inr q
          by_cases isL : ∃ n xs, d = .ref n ∧ h3[n]? = some (.lst xs)
          · refine .inl ⟨r, w, s, h, v, h1, R, S, e1, fun r1 u3 H1 F1 R1 V3 => ⟨r1, w, s, h1, d, h2, R1, S.fwd F1, e2, fun r2 u1 H2 F2 R2 V1 => ⟨r2, w, s, h2, kk, h3, R2, (S.fwd F1).fwd F2, e3, fun r3 u2 H3 F3 R3 V2 => ?_⟩⟩⟩
            rcases key r3 H3 u1 u2 u3 ((F1.tr R1 F2).tr R2 F3) R3 (VR.fwd F3 _ _ V1) V2 (VR.fwd F3 _ _ (VR.fwd F2 _ _ V3)) with q | ⟨a, H4, rfl, q, _⟩
            · exact q
            · obtain ⟨n, xs, rfl, e5⟩ := isL
              obtain ⟨a', us, e6, _, ha, _⟩ := ref_at R3 (VR.fwd F3 _ _ V1) e5
              cases e6
              rcases q with ⟨_, _, q, _⟩ | ⟨_, _, _, q, _⟩ <;> (rw [ha] at q; cases q)
          · refine .inr ⟨r, w, s, h, v, h1, R, S, e1, fun r1 u3 H1 F1 R1 V3 => ⟨r1, w, s, h1, d, h2, R1, S.fwd F1, e2, fun r2 u1 H2 F2 R2 V1 => ⟨r2, w, s, h2, kk, h3, R2, (S.fwd F1).fwd F2, e3, fun r3 u2 H3 F3 R3 V2 => ?_⟩⟩⟩
            rcases key r3 H3 u1 u2 u3 ((F1.tr R1 F2).tr R2 F3) R3 (VR.fwd F3 _ _ V1) V2 (VR.fwd F3 _ _ (VR.fwd F2 _ _ V3)) with ⟨p, us, i, j, h1, h2, ha, _⟩ | q
            · exfalso
              unfold stM at e4
              split at e4
              · rename_i n
                split at e4
                · rename_i xs e5; exact isL ⟨n, xs, rfl, e5⟩
                · rename_i xs e5
                  have V1' := VR.fwd F3 _ _ V1
                  simp only [VR] at V1'
                  obtain ⟨a, rfl, hn⟩ := V1'
                  cases h1
                  have hc := R3.at_ n _ _ hn e5
                  simp only [CRel] at hc
                  obtain ⟨us, q, _⟩ := hc
                  rw [ha] at q; cases q
                · rename_i xs e5
                  have V1' := VR.fwd F3 _ _ V1
                  simp only [VR] at V1'
                  obtain ⟨a, rfl, hn⟩ := V1'
                  cases h1
                  have hc := R3.at_ n _ _ hn e5
                  simp only [CRel] at hc
                  obtain ⟨us, q, _⟩ := hc
                  rw [ha] at q; cases q
                · cases e4
              · cases e4
            · exact q
/-- a, b = e1, e2 -/
theorem ms_par {n1 n2 : Nat} {t1 t2 : Str} {px py pt : Pos} {kt k2 pt2} (hN : X.N.Nodup) (ha : ME X a ma) (hb : ME X b mb) (hi : X.N[n1]? = some t1 := by rfl) (hj : X.N[n2]? = some t2 := by rfl) (hij : n1 ≠ n2 := by decide)
    (hx : X.env.scope.names.lookup t1 = some .local := by rfl) (hy : X.env.scope.names.lookup t2 = some .local := by rfl) (he1 : starEach (a :: [b]) X.env = (false, eval a X.env) :: starEach [b] X.env := by rfl) (he2 : starEach (b :: []) X.env = (false, eval b X.env) :: starEach [] X.env := by rfl)
    (hw : swappedStores [.Tuple [.Name t1 px, .Name t2 py] kt pt] (.Tuple [a, b] k2 pt2) X.env = pure (some [t1, t2]) := by rfl)
    (hs : swapsWithSole [.Tuple [.Name t1 px, .Name t2 py] kt pt] (.Tuple [a, b] k2 pt2) pos.line X.env = pure false := by rfl) (hc : X.calm = true := by rfl) :
    MS X (.Assign [.Tuple [.Name t1 px, .Name t2 py] kt pt] (.Tuple [a, b] k2 pt2) pos) (sPar n1 n2 ma mb) := PS.wk (ps_par hc hN hi hj hij hx hy (pa_cons ha (pa_cons hb pa_nil he2) he1) hw hs) fun D z H ⟨r, w, s, h, f, s', h', R, S, e, C⟩ => by
  unfold sPar at e
  cases e1 : ma s h with
  | none => simp [e1] at e
  | some p1 =>
    obtain ⟨v, h1⟩ := p1
    simp only [e1] at e
    cases e2 : mb s h1 with
    | none => simp [e2] at e
    | some p2 =>
      obtain ⟨v2, h2⟩ := p2
      simp only [e2, Option.some.injEq, Prod.mk.injEq] at e
      obtain ⟨rfl, rfl, rfl⟩ := e
      exact ⟨r, w, s, h, v, h1, R, S, e1, fun r1 u1 H1 F1 R1 V1 => ⟨r1, w, s, h1, v2, h2, R1, S.fwd F1, e2, fun r2 u2 H2 F2 R2 V2 => ⟨u1, u2, rfl, C r2 _ H2 (F1.tr R1 F2) R2 (((S.fwd F1).fwd F2).set n1 (VR.fwd F2 _ _ V1) |>.set n2 V2)⟩⟩⟩
/-! ### while -/
theorem ms_while (hc : MT X c ta) (hb : MSs X sts x) (hp : PassesOwn (model X.prog X.w) X.A X.env X.xe := by exact PassesOwn.never) : MS X (.While c sts [] pos) (sWhile ta x) := PS.wk (ps_while hp hc hb) fun D z H ⟨r, w, s, h, f, s', h', R, S, e, C⟩ => by
  obtain ⟨turns, e⟩ := fuel_at e
  refine ⟨fun n z H => ∃ r w s h f s' h', Rel X.K r w h H ∧ SR X.K r w H s z ∧ whileGo ta x n s h = some (f, s', h') ∧ EndS X.K r w h' H s' D f, ⟨turns, r, w, s, h, f, s', h', R, S, e, C⟩, ?_⟩
  rintro n z H ⟨r, w, s, h, f, s', h', R, S, e, C⟩
  cases n with
  | zero => simp [whileGo] at e
  | succ n =>
    simp only [whileGo] at e
    split at e
    · cases e
    · rename_i h1 e1
      simp only [Option.some.injEq, Prod.mk.injEq] at e
      obtain ⟨rfl, rfl, rfl⟩ := e
      exact ⟨r, w, s, h, _, h1, R, S, e1, fun r1 H1 F1 R1 => iteF (C r1 z H1 F1 R1 (S.fwd F1))⟩
    · rename_i h1 e1
      refine ⟨r, w, s, h, _, h1, R, S, e1, fun r1 H1 F1 R1 => iteT ⟨fun z' H' => ∃ r w s h f s' h', Rel X.K r w h H' ∧ SR X.K r w H' s z' ∧ whileGo ta x n s h = some (f, s', h') ∧ EndS X.K r w h' H' s' D f, fun z' H' q => ⟨n, Nat.lt_succ_self n, q⟩, ?_⟩⟩
      split at e
      · rename_i s2 h2 e2
        exact ⟨r1, w, s, h1, .nx, s2, h2, R1, S.fwd F1, e2, fun r2 z2 H2 F2 R2 S2 => ⟨r2, w, s2, h2, f, s', h', R2, S2, e, EndS.fwd C (F1.tr R1 F2) R2⟩⟩
      · rename_i s2 h2 e2
        exact ⟨r1, w, s, h1, .ct, s2, h2, R1, S.fwd F1, e2, fun r2 z2 H2 F2 R2 S2 => ⟨r2, w, s2, h2, f, s', h', R2, S2, e, EndS.fwd C (F1.tr R1 F2) R2⟩⟩
      · rename_i s2 h2 e2
        simp only [Option.some.injEq, Prod.mk.injEq] at e
        obtain ⟨rfl, rfl, rfl⟩ := e
        exact ⟨r1, w, s, h1, .bk, s2, h2, R1, S.fwd F1, e2, ContS.fwd C F1 R1⟩
      · rename_i v s2 h2 e2
        simp only [Option.some.injEq, Prod.mk.injEq] at e
        obtain ⟨rfl, rfl, rfl⟩ := e
        exact ⟨r1, w, s, h1, .rt v, s2, h2, R1, S.fwd F1, e2, Cont.fwd C F1 R1⟩
      · cases e
end
end Ew
end

section
set_option Elab.async false
set_option linter.all false
set_option maxRecDepth 100000
set_option maxHeartbeats 4000000
/-! EwG: for, comprehensions, defs and their calls. -/
namespace Ew
open PySem PySem.Spec PyProof.Rows L2
section
variable (K : PySem.W.Frag)
/-- what an iterator yields, turn by turn -/
structure Walks (J : It) (xs : List MV) (r w : List Addr) (H : Hp) : Prop where
  at_ : ∀ i r1 w1 H1 h1, Stp r w H r1 w1 H1 → Rel K r1 w1 h1 H1 → i < xs.length → J.go i H1 ∧ ∀ x H2, J.yld i H1 x H2 → Fwd r1 H1 r1 H2 ∧ Rel K r1 w1 h1 H2 ∧ ∃ v, xs[i]? = some v ∧ VR K r1 w1 H2 v x
  stop : ∀ i r1 w1 H1 h1, Stp r w H r1 w1 H1 → Rel K r1 w1 h1 H1 → xs.length ≤ i → J.stop i H1
structure WalksC (J : It) (n : Nat) (r w : List Addr) (H : Hp) : Prop where
  at_ : ∀ i r1 w1 H1 h1 ys y, Stp r w H r1 w1 H1 → Rel K r1 w1 h1 H1 → h1[n]? = some (.lst ys) → ys[i]? = some y → J.go i H1 ∧ ∀ x H2, J.yld i H1 x H2 → H2 = H1 ∧ VR K r1 w1 H2 y x
  stop : ∀ i r1 w1 H1 h1 ys, Stp r w H r1 w1 H1 → Rel K r1 w1 h1 H1 → h1[n]? = some (.lst ys) → ys[i]? = none → J.stop i H1
def WalkI (it : MI) (J : It) (r w : List Addr) (H : Hp) : Prop := match it with
  | .vals xs => Walks K J xs r w H
  | .cell n => WalksC K J n r w H
def tI (m : XI) : TI := fun z H R => ∃ r w s h it h', Rel K r w h H ∧ SR K r w H s z ∧ m s h = some (it, h') ∧ ∀ r' J H', Fwd r H r' H' → Rel K r' w h' H' → WalkI K it J r' w H' → R J H'
end
abbrev MII (X : Cx) (tg e : Expr) (m : XI) : Prop := PI X tg e (tI X.K m)
theorem PI.wk {X : Cx} {tg e : Expr} {t t' : TI} (h : PI X tg e t) (k : ∀ z H R, t' z H R → t z H R) : PI X tg e t' := ⟨fun pins s z H R I q => h.run pins s z H R I (k z H R q)⟩
section
variable {K : PySem.W.Frag} {X : Cx} {e a b c o i : Expr} {m ma mb mc mo mi : XE} {pos p : Pos} {es : List Expr} {mas : XA} {st : Stmt} {sts sts2 : List Stmt} {x y : XS} {ta : XT} {g : XG} {gs : XGs} {tg iter : Expr} {it : XI}
theorem walks_list (K : PySem.W.Frag) {r w : List Addr} {H : Hp} {h : MH} {v : MV} {a : Addr} {xs : List MV} (R : Rel K r w h H) (V : VR K r w H v (.ref a)) (nr : ∀ n, v ≠ .ref n) (e : listOf h v = some xs) : Walks K (Itl K a) xs r w H := by
  have get : ∀ r1 w1 H1 h1, Stp r w H r1 w1 H1 → Rel K r1 w1 h1 H1 → ∃ us, SqL K H1 a us ∧ VRs K r1 w1 H1 xs us := fun r1 w1 H1 h1 F R1 => by
    have V1 := VR.map F _ _ V
    have e1 : listOf h1 v = some xs := by
      cases v <;> first | exact e | exact absurd rfl (nr _)
    obtain ⟨p, us, ep, sq, q⟩ := list_sq K R1 V1 e1
    cases ep
    exact ⟨us, sq, q⟩
  refine ⟨fun i r1 w1 H1 h1 F R1 hi => ?_, fun i r1 w1 H1 h1 F R1 hi => ?_⟩
  · obtain ⟨us, sq, q⟩ := get r1 w1 H1 h1 F R1
    have e1 : xs[i]? = some xs[i] := List.getElem?_eq_getElem hi
    obtain ⟨u, q1, q2⟩ := VRs.get q e1
    refine ⟨⟨us, u, sq, q1⟩, fun x H2 ⟨eH, hx⟩ => ?_⟩
    subst eH
    have := hx us sq
    rw [q1] at this
    cases this
    exact ⟨Fwd.refl _ _, R1, _, e1, q2⟩
  · obtain ⟨us, sq, q⟩ := get r1 w1 H1 h1 F R1
    exact ⟨us, sq, by rw [← VRs.length q]; exact hi⟩
theorem walks_tup (K : PySem.W.Frag) {r w : List Addr} {H : Hp} {h : MH} {a : Addr} {xs : List MV} (R : Rel K r w h H) (V : VR K r w H (.tup xs) (.ref a)) : Walks K (Itt K a) xs r w H := by
  have get : ∀ r1 w1 H1 h1, Stp r w H r1 w1 H1 → Rel K r1 w1 h1 H1 → ∃ us, SqT K H1 a us ∧ VRs K r1 w1 H1 xs us := fun r1 w1 H1 h1 F R1 => by
    have V1 := VR.map F _ _ V
    simp only [VR] at V1
    obtain ⟨p, us, ep, t, q⟩ := V1
    cases ep
    exact ⟨us, t.sq, q⟩
  refine ⟨fun i r1 w1 H1 h1 F R1 hi => ?_, fun i r1 w1 H1 h1 F R1 hi => ?_⟩
  · obtain ⟨us, sq, q⟩ := get r1 w1 H1 h1 F R1
    have e1 : xs[i]? = some xs[i] := List.getElem?_eq_getElem hi
    obtain ⟨u, q1, q2⟩ := VRs.get q e1
    refine ⟨⟨us, u, sq, q1⟩, fun x H2 ⟨eH, hx⟩ => ?_⟩
    subst eH
    have := hx us sq
    rw [q1] at this
    cases this
    exact ⟨Fwd.refl _ _, R1, _, e1, q2⟩
  · obtain ⟨us, sq, q⟩ := get r1 w1 H1 h1 F R1
    exact ⟨us, sq, by rw [← VRs.length q]; exact hi⟩
theorem walks_cell (K : PySem.W.Frag) {r w : List Addr} {H : Hp} {h : MH} {a : Addr} {n : Nat} (R : Rel K r w h H) (hn : r[n]? = some a) : WalksC K (Itl K a) n r w H := by
  have get : ∀ r1 w1 H1 h1 ys, Stp r w H r1 w1 H1 → Rel K r1 w1 h1 H1 → h1[n]? = some (.lst ys) → ∃ us, SqL K H1 a us ∧ VRs K r1 w1 H1 ys us := fun r1 w1 H1 h1 ys F R1 e1 => by
    have hc := R1.at_ n a _ (F.ix _ _ hn) e1
    simp only [CRel] at hc
    obtain ⟨us, h1, h2⟩ := hc
    exact ⟨us, .inl (.inl h1), h2⟩
  refine ⟨fun i r1 w1 H1 h1 ys y F R1 e1 e2 => ?_, fun i r1 w1 H1 h1 ys F R1 e1 e2 => ?_⟩
  · obtain ⟨us, sq, q⟩ := get r1 w1 H1 h1 ys F R1 e1
    obtain ⟨u, q1, q2⟩ := VRs.get q e2
    refine ⟨⟨us, u, sq, q1⟩, fun x H2 ⟨eH, hx⟩ => ?_⟩
    subst eH
    have := hx us sq
    rw [q1] at this
    cases this
    exact ⟨rfl, q2⟩
  · obtain ⟨us, sq, q⟩ := get r1 w1 H1 h1 ys F R1 e1
    exact ⟨us, sq, by rw [← VRs.length q]; exact List.getElem?_eq_none_iff.mp e2⟩
/-- a list, a tuple that is walked -/
theorem mi_seq (he : ME X e m) : MII X tg e (iSeq m) := PI.wk (PI.or2 (pi_list he) (pi_tup he)) fun z H Q ⟨r, w, s, h, it, h', R, S, e, C⟩ => by
  unfold iSeq at e
  split at e
  · rename_i n h1 e1
    split at e
    · rename_i ys e2
      simp only [Option.some.injEq, Prod.mk.injEq] at e
      obtain ⟨rfl, rfl⟩ := e
      refine .inl ⟨r, w, s, h, _, h1, R, S, e1, fun r1 u H1 F1 R1 V1 => ?_⟩
      obtain ⟨a, us, rfl, hn, ha, q⟩ := ref_at R1 V1 e2
      exact ⟨a, rfl, ⟨us, SqL.of ha⟩, C r1 _ H1 F1 R1 (walks_cell X.K R1 hn)⟩
    · cases e
  · rename_i v h1 nr e1
    split at e
    · rename_i xs e2
      simp only [Option.some.injEq, Prod.mk.injEq] at e
      obtain ⟨rfl, rfl⟩ := e
      by_cases ht : ∃ ys, v = .tup ys
      · obtain ⟨ys, rfl⟩ := ht
        simp only [seqOf, Option.some.injEq] at e2
        subst e2
        refine .inr ⟨r, w, s, h, _, h1, R, S, e1, fun r1 u H1 F1 R1 V1 => ?_⟩
        have V1' := V1
        simp only [VR] at V1'
        obtain ⟨a, us, rfl, t, q⟩ := V1'
        exact ⟨a, rfl, ⟨us, t.sq⟩, C r1 _ H1 F1 R1 (walks_tup X.K R1 V1)⟩
      · have e3 : listOf h1 v = some xs := by
          cases v <;> first | exact absurd ⟨_, rfl⟩ ht | simpa [seqOf] using e2
        refine .inl ⟨r, w, s, h, _, h1, R, S, e1, fun r1 u H1 F1 R1 V1 => ?_⟩
        obtain ⟨a, us, rfl, sq, q⟩ := list_sq X.K R1 V1 e3
        exact ⟨a, rfl, ⟨us, sq⟩, C r1 _ H1 F1 R1 (walks_list X.K R1 V1 (fun n en => nr n (by rw [en])) e3)⟩
    · cases e
  · cases e
theorem rngM_at {lo : Int} {n i : Nat} (hi : i < n) : (rngM lo n)[i]? = some (.int (lo + (i : Nat))) := by
  unfold rngM
  rw [List.getElem?_map, List.getElem?_range hi]
  rfl
theorem walks_rng {lo : Int} {n : Nat} {r w : List Addr} {H : Hp} : Walks K (Itr lo n) (rngM lo n) r w H := by
  have hl : (rngM lo n).length = n := by simp [rngM]
  refine ⟨fun i r1 w1 H1 h1 F R1 hi => ?_, fun i r1 w1 H1 h1 F R1 hi => ?_⟩
  · rw [hl] at hi
    refine ⟨hi, fun x H2 ⟨eH, hx⟩ => ?_⟩
    subst eH hx
    exact ⟨Fwd.refl _ _, R1, _, rngM_at hi, by simp only [VR]⟩
  · rw [hl] at hi
    exact hi
theorem mi_range1 (hm : X.mg "range" = none) (he : ME X e m) (hg : Gl X "range" := by rfl) (hs : starEach [e] X.env = [(false, eval e X.env)] := by rfl) : MII X tg (.Call (.Name "range" p) [e] [] pos) (iRange1 m) :=
  PI.wk (pi_range1 hg hm (pa_cons he pa_nil hs) hs) fun z H Q ⟨r, w, s, h, it, h', R, S, e, C⟩ => by
  unfold iRange1 at e
  split at e
  · rename_i j h1 e1
    split at e
    · rename_i hj
      simp only [Option.some.injEq, Prod.mk.injEq] at e
      obtain ⟨rfl, rfl⟩ := e
      refine ⟨r, w, s, h, _, h1, R, S, e1, fun r1 u H1 F1 R1 V1 => ?_⟩
      simp only [VR] at V1
      subst V1
      exact ⟨j, rfl, hj.1, hj.2, C r1 _ H1 F1 R1 walks_rng⟩
    · cases e
  · cases e
theorem mi_range2 (hm : X.mg "range" = none) (ha : ME X a ma) (hb : ME X b mb) (hg : Gl X "range" := by rfl) (hs : starEach [a, b] X.env = [(false, eval a X.env), (false, eval b X.env)] := by rfl) (hs2 : starEach [b] X.env = [(false, eval b X.env)] := by rfl)
    (hs3 : starEach (a :: [b]) X.env = (false, eval a X.env) :: starEach [b] X.env := by rfl) : MII X tg (.Call (.Name "range" p) [a, b] [] pos) (iRange2 ma mb) :=
  PI.wk (pi_range2 hg hm (pa_cons ha (pa_cons hb pa_nil hs2) hs3) hs hs2) fun z H Q ⟨r, w, s, h, it, h', R, S, e, C⟩ => by
  unfold iRange2 at e
  split at e
  · rename_i i h1 e1
    split at e
    · rename_i j h2 e2
      split at e
      · rename_i hj
        simp only [Option.some.injEq, Prod.mk.injEq] at e
        obtain ⟨rfl, rfl⟩ := e
        refine ⟨r, w, s, h, _, h1, R, S, e1, fun r1 u1 H1 F1 R1 V1 => ⟨r1, w, s, h1, _, h2, R1, S.fwd F1, e2, fun r2 u2 H2 F2 R2 V2 => ?_⟩⟩
        simp only [VR] at V1 V2
        subst V1 V2
        exact ⟨i, j, rfl, hj, C r2 _ H2 (F1.tr R1 F2) R2 walks_rng⟩
      · cases e
    · cases e
  · cases e
/-! ### for -/
theorem for_vals {J : It} {xs : List MV} {tb : TS} {D : Ends} {z : L2.St} {r w : List Addr} {s : SM} {h : MH} {H : Hp} {f : Fl} {s' : SM} {h' : MH} (Wk : Walks K J xs r w H) (R : Rel K r w h H) (S : SR K r w H s z) (e : forGo g x xs s h = some (f, s', h')) (C : EndS K r w h' H s' D f) :
    ∃ W : Nat → Nat → L2.St → Hp → Prop, (∃ m, W 0 m z H) ∧ ∀ i m z H, W i m z H →
      (J.stop i H ∧ D.nx z H) ∨ (J.go i H ∧ ∃ N : L2.St → Hp → Prop, (∀ z' H', N z' H' → ∃ m', m' < m ∧ W (i + 1) m' z' H') ∧ ∀ u H', J.yld i H u H' → tG K g u z H' fun z2 H2 => tS K x { D with nx := N, ct := N, bk := D.nx } z2 H2) := by
  have W0 : Nat → L2.St → Hp → Prop := fun i z1 H1 => True
  refine ⟨fun i n z1 H1 => n = xs.length - i ∧ i ≤ xs.length ∧ ∃ r1 s1 h1, Fwd r H r1 H1 ∧ Rel K r1 w h1 H1 ∧ SR K r1 w H1 s1 z1 ∧ forGo g x (xs.drop i) s1 h1 = some (f, s', h'),
    ⟨_, rfl, Nat.zero_le _, r, s, h, Fwd.refl r H, R, S, by simpa using e⟩, ?_⟩
  rintro i n z1 H1 ⟨rfl, hi, r1, s1, h1, F1, R1, S1, e1⟩
  by_cases hl : i < xs.length
  · refine .inr ⟨(Wk.at_ i r1 w H1 h1 F1.stp R1 hl).1, fun z2 H2 => ∃ r2 s2 h2, Fwd r H r2 H2 ∧ Rel K r2 w h2 H2 ∧ SR K r2 w H2 s2 z2 ∧ forGo g x (xs.drop (i + 1)) s2 h2 = some (f, s', h'), fun z2 H2 q => ⟨xs.length - (i + 1), by omega, rfl, hl, q⟩, fun u H2 hy => ?_⟩
    obtain ⟨F2, R2, v, ev, Vv⟩ := (Wk.at_ i r1 w H1 h1 F1.stp R1 hl).2 u H2 hy
    have F12 := F1.tr R1 F2
    have ed : xs.drop i = v :: xs.drop (i + 1) := by
      rw [List.drop_eq_getElem_cons hl]
      rw [List.getElem?_eq_getElem hl] at ev
      cases ev; rfl
    rw [ed] at e1
    simp only [forGo] at e1
    cases e2 : g v s1 h1 with
    | none => simp [e2] at e1
    | some p2 =>
      obtain ⟨s3, h3⟩ := p2
      simp only [e2] at e1
      refine ⟨r1, w, s1, h1, v, s3, h3, R2, S1.fwd F2, Vv, e2, fun r3 z3 H3 F3 R3 S3 => ?_⟩
      have F13 := F12.tr R2 F3
      split at e1
      · rename_i s4 h4 e4
        exact ⟨r3, w, s3, h3, .nx, s4, h4, R3, S3, e4, fun r4 z4 H4 F4 R4 S4 => ⟨r4, s4, h4, F13.tr R3 F4, R4, S4, e1⟩⟩
      · rename_i s4 h4 e4
        exact ⟨r3, w, s3, h3, .ct, s4, h4, R3, S3, e4, fun r4 z4 H4 F4 R4 S4 => ⟨r4, s4, h4, F13.tr R3 F4, R4, S4, e1⟩⟩
      · rename_i s4 h4 e4
        simp only [Option.some.injEq, Prod.mk.injEq] at e1
        obtain ⟨rfl, rfl, rfl⟩ := e1
        exact ⟨r3, w, s3, h3, .bk, s4, h4, R3, S3, e4, ContS.fwd C F13 R3⟩
      · rename_i v4 s4 h4 e4
        simp only [Option.some.injEq, Prod.mk.injEq] at e1
        obtain ⟨rfl, rfl, rfl⟩ := e1
        exact ⟨r3, w, s3, h3, .rt v4, s4, h4, R3, S3, e4, Cont.fwd C F13 R3⟩
      · cases e1
  · have e0 : xs.drop i = [] := List.drop_eq_nil_of_le (by omega)
    rw [e0] at e1
    simp only [forGo, Option.some.injEq, Prod.mk.injEq] at e1
    obtain ⟨rfl, rfl, rfl⟩ := e1
    exact .inl ⟨Wk.stop i r1 w H1 h1 F1.stp R1 (by omega), C r1 z1 H1 F1 R1 S1⟩
theorem for_cell {J : It} {n : Nat} {D : Ends} {z : L2.St} {r w : List Addr} {s : SM} {h : MH} {H : Hp} {f : Fl} {s' : SM} {h' : MH} {t : Nat} (Wk : WalksC K J n r w H) (R : Rel K r w h H) (S : SR K r w H s z) (e : forCell g x n t 0 s h = some (f, s', h')) (C : EndS K r w h' H s' D f) :
    ∃ W : Nat → Nat → L2.St → Hp → Prop, (∃ m, W 0 m z H) ∧ ∀ i m z H, W i m z H →
      (J.stop i H ∧ D.nx z H) ∨ (J.go i H ∧ ∃ N : L2.St → Hp → Prop, (∀ z' H', N z' H' → ∃ m', m' < m ∧ W (i + 1) m' z' H') ∧ ∀ u H', J.yld i H u H' → tG K g u z H' fun z2 H2 => tS K x { D with nx := N, ct := N, bk := D.nx } z2 H2) := by
  refine ⟨fun i k z1 H1 => ∃ r1 s1 h1, Fwd r H r1 H1 ∧ Rel K r1 w h1 H1 ∧ SR K r1 w H1 s1 z1 ∧ forCell g x n k i s1 h1 = some (f, s', h'),
    ⟨t, r, s, h, Fwd.refl r H, R, S, e⟩, ?_⟩
  rintro i k z1 H1 ⟨r1, s1, h1, F1, R1, S1, e1⟩
  cases k with
  | zero => simp [forCell] at e1
  | succ k =>
    simp only [forCell] at e1
    split at e1
    · rename_i ys e2
      cases e3 : ys[i]? with
      | none =>
        simp only [e3, Option.some.injEq, Prod.mk.injEq] at e1
        obtain ⟨rfl, rfl, rfl⟩ := e1
        exact .inl ⟨Wk.stop i r1 w H1 h1 ys F1.stp R1 e2 e3, C r1 z1 H1 F1 R1 S1⟩
      | some v =>
        simp only [e3] at e1
        refine .inr ⟨(Wk.at_ i r1 w H1 h1 ys v F1.stp R1 e2 e3).1, fun z2 H2 => ∃ r2 s2 h2, Fwd r H r2 H2 ∧ Rel K r2 w h2 H2 ∧ SR K r2 w H2 s2 z2 ∧ forCell g x n k (i + 1) s2 h2 = some (f, s', h'), fun z2 H2 q => ⟨k, Nat.lt_succ_self k, q⟩, fun u H2 hy => ?_⟩
        obtain ⟨eH, Vv⟩ := (Wk.at_ i r1 w H1 h1 ys v F1.stp R1 e2 e3).2 u H2 hy
        subst eH
        cases e4 : g v s1 h1 with
        | none => simp [e4] at e1
        | some p2 =>
          obtain ⟨s3, h3⟩ := p2
          simp only [e4] at e1
          refine ⟨r1, w, s1, h1, v, s3, h3, R1, S1, Vv, e4, fun r3 z3 H3 F3 R3 S3 => ?_⟩
          have F13 := F1.tr R1 F3
          split at e1
          · rename_i s4 h4 e4
            exact ⟨r3, w, s3, h3, .nx, s4, h4, R3, S3, e4, fun r4 z4 H4 F4 R4 S4 => ⟨r4, s4, h4, F13.tr R3 F4, R4, S4, e1⟩⟩
          · rename_i s4 h4 e4
            exact ⟨r3, w, s3, h3, .ct, s4, h4, R3, S3, e4, fun r4 z4 H4 F4 R4 S4 => ⟨r4, s4, h4, F13.tr R3 F4, R4, S4, e1⟩⟩
          · rename_i s4 h4 e4
            simp only [Option.some.injEq, Prod.mk.injEq] at e1
            obtain ⟨rfl, rfl, rfl⟩ := e1
            exact ⟨r3, w, s3, h3, .bk, s4, h4, R3, S3, e4, ContS.fwd C F13 R3⟩
          · rename_i v4 s4 h4 e4
            simp only [Option.some.injEq, Prod.mk.injEq] at e1
            obtain ⟨rfl, rfl, rfl⟩ := e1
            exact ⟨r3, w, s3, h3, .rt v4, s4, h4, R3, S3, e4, Cont.fwd C F13 R3⟩
          · cases e1
    · cases e1
theorem ms_for (hi : MII X tg iter it) (hg : MG X tg g) (hb : MSs X sts x) (hs : ∀ x, foldedSetIterable iter X.env x = pure x := by intro _; rfl) (hp : PassesOwn (model X.prog X.w) X.A X.env X.xe := by exact PassesOwn.never) (hc : X.calm = true := by rfl) : MS X (.For tg iter sts [] pos) (sFor it g x) := PS.wk (ps_for hp hc hi hg hb hs) fun D z H ⟨r, w, s, h, f, s', h', R, S, e, C⟩ => by
  unfold sFor at e
  split at e
  · cases e
  · rename_i xs h1 e1
    exact ⟨r, w, s, h, _, h1, R, S, e1, fun r1 J H1 F1 R1 W => for_vals (tb := tS X.K x) W R1 (S.fwd F1) e (EndS.fwd C F1 R1)⟩
  · rename_i n h1 e1
    obtain ⟨t, e⟩ := fuel_at e
    exact ⟨r, w, s, h, _, h1, R, S, e1, fun r1 J H1 F1 R1 W => for_cell W R1 (S.fwd F1) e (EndS.fwd C F1 R1)⟩
end
end Ew
end

section
set_option Elab.async false
set_option linter.all false
set_option maxRecDepth 100000
set_option maxHeartbeats 4000000
/-! EwH: comprehensions, defs and their calls. -/
namespace Ew
open PySem PySem.Spec PyProof.Rows L2
/-! ### slots that are wiped -/
theorem wipe_get (z : L2.St) : ∀ (vs : List Nat) (j : Nat), (wipe z vs)[j]? = if j ∈ vs then (if j < z.length then some none else none) else z[j]?
  | [], j => by simp [wipe]
  | v :: vs, j => by
    unfold wipe
    by_cases e : j = v
    · subst e
      simp only [List.mem_cons, true_or, if_true]
      by_cases hl : j < z.length
      · rw [List.getElem?_set_self (by rw [wipe_length]; exact hl), if_pos hl]
      · rw [List.getElem?_eq_none_iff.mpr (by rw [List.length_set, wipe_length]; omega), if_neg hl]
    · rw [List.getElem?_set_ne (Ne.symm e), wipe_get z vs j]
      simp only [List.mem_cons, e, false_or]
theorem wipeM_get (z : SM) : ∀ (vs : List Nat) (j : Nat), (wipeM z vs)[j]? = if j ∈ vs then (if j < z.length then some none else none) else z[j]?
  | [], j => by simp [wipeM]
  | v :: vs, j => by
    have hlen : ∀ vs : List Nat, (wipeM z vs).length = z.length := by
      intro vs
      induction vs with
      | nil => rfl
      | cons v vs ih => unfold wipeM; rw [List.length_set, ih]
    unfold wipeM
    by_cases e : j = v
    · subst e
      simp only [List.mem_cons, true_or, if_true]
      by_cases hl : j < z.length
      · rw [List.getElem?_set_self (by rw [hlen]; exact hl), if_pos hl]
      · rw [List.getElem?_eq_none_iff.mpr (by rw [List.length_set, hlen]; omega), if_neg hl]
    · rw [List.getElem?_set_ne (Ne.symm e), wipeM_get z vs j]
      simp only [List.mem_cons, e, false_or]
theorem wipeM_length (z : SM) : ∀ vs : List Nat, (wipeM z vs).length = z.length
  | [] => rfl
  | v :: vs => by unfold wipeM; rw [List.length_set, wipeM_length z vs]
theorem wipe_set {z : L2.St} {vs : List Nat} {i : Nat} {o : Option V} (hi : i ∈ vs) : wipe (z.set i o) vs = wipe z vs := by
  apply List.ext_getElem?
  intro j
  rw [wipe_get, wipe_get, List.length_set]
  by_cases hj : j ∈ vs
  · rw [if_pos hj, if_pos hj]
  · rw [if_neg hj, if_neg hj]
    have ne : i ≠ j := fun e => hj (by rw [← e]; exact hi)
    exact List.getElem?_set_ne ne
section
variable {K : PySem.W.Frag} {r r' w : List Addr} {H H' : Hp} {h : MH}
theorem SR.wipe {s : SM} {z : L2.St} (S : SR K r w H s z) (vs : List Nat) : SR K r w H (wipeM s vs) (L2.wipe z vs) := by
  refine ⟨by rw [wipeM_length, wipe_length]; exact S.1, fun i v e => ?_⟩
  rw [wipeM_get] at e
  by_cases hi : i ∈ vs
  · rw [if_pos hi] at e
    split at e <;> cases e
  · rw [if_neg hi] at e
    rw [wipe_get, if_neg hi]
    exact S.2 i v e
theorem Stp.held {p : Addr} {o : HO} (hw : p ∈ w) : Stp r w H r w (upd H p o) := ⟨fun _ _ h => h, fun a u n e => ⟨n, .inl (by rw [upd_ne (fun z => n.2 (by rw [z]; exact hw))]; exact e)⟩⟩
theorem Rel.held {p : Addr} {o : HO} (R : Rel K r w h H) (hw : p ∈ w) : Rel K r w h (upd H p o) := by
  have hp : p ∉ r := (R.wh p hw).1
  refine ⟨R.len, R.nd, fun n a c hn hc => (R.at_ n a c hn hc).map (Stp.held hw) (upd_ne fun z => hp (by rw [← z]; exact List.mem_of_getElem? hn)), fun d hd => ?_⟩
  obtain ⟨n, u, e⟩ := R.wh d hd
  refine ⟨n, ?_⟩
  by_cases q : d = p
  · subst q; exact ⟨o, upd_same⟩
  · exact ⟨u, by rw [upd_ne q]; exact e⟩
end
/-- a comprehension's target -/
structure TgOk (K : PySem.W.Frag) (vs : List Nat) (g : TG) (gm : XG) : Prop where
  at_ : ∀ (r w : List Addr) (s : SM) (h : MH) (v : MV) (s1 : SM) (h1 : MH) (u : V) (z : L2.St) (H : Hp) (Q : L2.St → Hp → Prop), Rel K r w h H → SR K r w H s z → VR K r w H v u → gm v s h = some (s1, h1) →
    h1 = h ∧ ((∀ z1, SR K r w H s1 z1 → L2.wipe z1 vs = L2.wipe z vs → Q z1 H) → g u z H Q)
theorem tgok_nm {K : PySem.W.Frag} {vs : List Nat} {i : Nat} (hi : i ∈ vs) : TgOk K vs (gName i) (gNm i) := ⟨fun r w s h v s1 h1 u z H Q R S V e => by
  simp only [gNm, Option.some.injEq, Prod.mk.injEq] at e
  obtain ⟨rfl, rfl⟩ := e
  exact ⟨rfl, fun k => k _ (S.set i V) (wipe_set hi)⟩⟩
theorem tgok_2 {K : PySem.W.Frag} {vs : List Nat} {i j : Nat} (hi : i ∈ vs) (hj : j ∈ vs) : TgOk K vs (gTup K 2 (gCons (gName i) (gCons (gName j) gNil))) (gTp 2 (gsCons (gNm i) (gsCons (gNm j) gsNil))) := ⟨fun r w s h v s1 h1 u z H Q R S V e => by
  unfold gTp at e
  split at e
  · rename_i xs
    split at e
    · rename_i hl
      match xs, hl with
      | [x, y], _ =>
        simp only [gsCons, gNm, gsNil, Option.some.injEq, Prod.mk.injEq] at e
        obtain ⟨rfl, rfl⟩ := e
        refine ⟨rfl, fun k => ?_⟩
        simp only [VR] at V
        obtain ⟨a, us, rfl, t, q⟩ := V
        obtain ⟨u1, u2, rfl, q1, q2⟩ := vrs2 q
        exact ⟨a, _, rfl, t.sq, rfl, u1, [u2], rfl, u2, [], rfl, rfl, k _ ((S.set i q1).set j q2) (by rw [wipe_set hj, wipe_set hi])⟩
    · cases e
  · cases e⟩
theorem tgok_3 {K : PySem.W.Frag} {vs : List Nat} {i j l : Nat} (hi : i ∈ vs) (hj : j ∈ vs) (hl : l ∈ vs) : TgOk K vs (gTup K 3 (gCons (gName i) (gCons (gName j) (gCons (gName l) gNil)))) (gTp 3 (gsCons (gNm i) (gsCons (gNm j) (gsCons (gNm l) gsNil)))) := ⟨fun r w s h v s1 h1 u z H Q R S V e => by
  unfold gTp at e
  split at e
  · rename_i xs
    split at e
    · rename_i hl3
      match xs, hl3 with
      | [x, y, x3], _ =>
        simp only [gsCons, gNm, gsNil, Option.some.injEq, Prod.mk.injEq] at e
        obtain ⟨rfl, rfl⟩ := e
        refine ⟨rfl, fun k => ?_⟩
        simp only [VR] at V
        obtain ⟨a, us, rfl, t, q⟩ := V
        simp only [VRs] at q
        obtain ⟨u1, t1, rfl, q1, u2, t2, rfl, q2, u3, t3, rfl, q3, rfl⟩ := q
        exact ⟨a, _, rfl, t.sq, rfl, u1, [u2, u3], rfl, u2, [u3], rfl, u3, [], rfl, rfl, k _ (((S.set i q1).set j q2).set l q3) (by rw [wipe_set hl, wipe_set hj, wipe_set hi])⟩
    · cases e
  · cases e⟩
theorem lc_vals {K : PySem.W.Frag} {J : It} {g : TG} {gm : XG} {c : XT} {e : XE} {own : List Nat} {xs : List MV} {r w : List Addr} {s : SM} {h h' : MH} {H : Hp} {z : L2.St} {D : Addr} {ys : List MV} {Q : VK} (Wk : Walks K J xs r w H) (tg : TgOk K own g gm)
    (R : Rel K r w h H) (S : SR K r w H s z) (hD : H D = none) (ev : lcGo gm c e [] xs (wipeM s own) h = some (ys, h')) (C : ContF K r w h' H (.lst ys) Q) :
    ∃ W : Nat → Nat → Hp → Prop, (∃ m, W 0 m (upd H D (.lst []))) ∧ ∀ i m H, W i m H → (J.stop i H ∧ Q (.ref D) H) ∨ (J.go i H ∧ ∃ Nx : Hp → Prop, (∀ H', Nx H' → ∃ m', m' < m ∧ W (i + 1) m' H') ∧
      ∀ x H', J.yld i H x H' → g x (L2.wipe z own) H' fun z2 H2 => L2.wipe z2 own = L2.wipe z own ∧ tT K c z2 H2 fun b H3 => if b = true then tM K e z2 H3 fun y H4 => ∃ acc, H4 D = some (.lst acc) ∧ acc.length < sizeLine ∧ Nx (upd H4 D (.lst (acc ++ [y]))) else Nx H3) := by
  have nD : D ∉ w := R.ninw hD
  -- the state at turn i: what is made so far
  let I : Nat → List MV → Hp → Prop := fun i acc H1 => ∃ r1 h1 us, Fwd r H r1 H1 ∧ Rel K r1 (D :: w) h1 H1 ∧ SR K r1 (D :: w) H1 (wipeM s own) (L2.wipe z own) ∧ H1 D = some (.lst us) ∧ VRs K r1 (D :: w) H1 acc us ∧ lcGo gm c e acc (xs.drop i) (wipeM s own) h1 = some (ys, h')
  refine ⟨fun i n H1 => n = xs.length - i ∧ i ≤ xs.length ∧ ∃ acc, I i acc H1, ⟨_, rfl, Nat.zero_le _, [], r, h, [], Fwd.new r hD, R.hold hD, (S.map (Stp.hold R hD)).wipe own, upd_same, by simp [VRs], by simpa using ev⟩, ?_⟩
  rintro i n H1 ⟨rfl, hi, acc, r1, h1, us, F1, R1, S1, eD, V1, e1⟩
  have st : Stp r w H r1 (D :: w) H1 := ⟨fun n a hn => F1.at_ hn, fun a o n ea => ⟨⟨F1.nin n.1 ea, fun hm => by
    rcases List.mem_cons.mp hm with q | q
    · rw [q, hD] at ea; cases ea
    · exact n.2 q⟩, .inl (F1.keep a o n.1 ea)⟩⟩
  by_cases hl : i < xs.length
  · obtain ⟨hgo, hy⟩ := Wk.at_ i r1 _ H1 h1 st R1 hl
    refine .inr ⟨hgo, fun H2 => ∃ acc, I (i + 1) acc H2, fun H2 q => ⟨xs.length - (i + 1), by omega, rfl, hl, q⟩, fun x H2 hx => ?_⟩
    obtain ⟨F2, R2, v, ex, Vv⟩ := hy x H2 hx
    have F12 : Fwd r H r1 H2 := F1.tr R1 F2
    have ed : xs.drop i = v :: xs.drop (i + 1) := by
      rw [List.drop_eq_getElem_cons hl]
      rw [List.getElem?_eq_getElem hl] at ex
      cases ex; rfl
    rw [ed] at e1
    simp only [lcGo] at e1
    cases e2 : gm v (wipeM s own) h1 with
    | none => simp [e2] at e1
    | some p2 =>
      obtain ⟨s3, h3⟩ := p2
      simp only [e2] at e1
      have nDr : D ∉ r1 := (R1.wh D List.mem_cons_self).1
      have eD2 : H2 D = some (.lst us) := F2.keep D _ nDr eD
      have V2 := VRs.fwd F2 _ _ V1
      have S2 := S1.fwd F2
      obtain ⟨rfl, kg⟩ := tg.at_ r1 (D :: w) _ h1 v s3 h3 x _ H2 _ R2 S2 Vv e2
      refine kg fun z3 S3 wz => ⟨by rw [wz, show L2.wipe (L2.wipe z own) own = L2.wipe z own from by
        apply List.ext_getElem?
        intro j
        rw [wipe_get, wipe_get, wipe_length]
        split <;> rfl], ?_⟩
      cases e3 : c s3 h3 with
      | none => simp [e3] at e1
      | some p3 =>
        obtain ⟨b, h4⟩ := p3
        refine ⟨r1, _, s3, h3, b, h4, R2, S3, e3, fun r4 H4 F4 R4 => ?_⟩
        have F14 := F12.tr R2 F4
        have eD4 : H4 D = some (.lst us) := F4.keep D _ nDr eD2
        have V4 := VRs.fwd F4 _ _ V2
        cases b with
        | false =>
          simp only [e3] at e1
          exact iteF ⟨acc, r4, h4, us, F14, R4, S2.fwd F4, eD4, V4, e1⟩
        | true =>
          simp only [e3] at e1
          cases e5 : e s3 h4 with
          | none => simp [e5] at e1
          | some p5 =>
            obtain ⟨v5, h5⟩ := p5
            simp only [e5] at e1
            split at e1
            · rename_i hz
              refine iteT ⟨r4, _, s3, h4, v5, h5, R4, S3.fwd F4, e5, fun r5 u5 H5 F5 R5 V5 => ?_⟩
              have nDr4 : D ∉ r4 := (R4.wh D List.mem_cons_self).1
              have eD5 : H5 D = some (.lst us) := F5.keep D _ nDr4 eD4
              have V5' := VRs.fwd F5 _ _ V4
              have hm : D ∈ D :: w := List.mem_cons_self
              have F15 := F14.tr R4 F5
              refine ⟨us, eD5, by rw [← VRs.length V5', ← szl]; exact hz, acc ++ [v5], r5, h5, us ++ [u5], ⟨F15.ext, fun a o n ea => ?_, fun a o u ea => ?_⟩, R5.held hm, ((S2.fwd F4).fwd F5).map (Stp.held hm), upd_same, VRs.map (Stp.held hm) _ _ (VRs.append V5' (VRs.one V5)), e1⟩
              · rw [upd_ne (ne_of_none ea hD)]; exact F15.keep a o n ea
              · rw [upd_ne (ne_of_none ea hD)]; exact F15.frz a o u ea
            · cases e1
  · have e0 : xs.drop i = [] := List.drop_eq_nil_of_le (by omega)
    rw [e0] at e1
    simp only [lcGo, Option.some.injEq, Prod.mk.injEq] at e1
    obtain ⟨rfl, rfl⟩ := e1
    refine .inl ⟨Wk.stop i r1 _ H1 h1 st R1 (by omega), C r1 D H1 F1 hD R1 ?_⟩
    simp only [VF]
    exact ⟨us, eD, V1⟩
theorem lc_cell {K : PySem.W.Frag} {J : It} {g : TG} {gm : XG} {c : XT} {e : XE} {own : List Nat} {nc t : Nat} {r w : List Addr} {s : SM} {h h' : MH} {H : Hp} {z : L2.St} {D : Addr} {ys : List MV} {Q : VK} (Wk : WalksC K J nc r w H) (tg : TgOk K own g gm)
    (R : Rel K r w h H) (S : SR K r w H s z) (hD : H D = none) (ev : lcCell gm c e nc t 0 [] (wipeM s own) h = some (ys, h')) (C : ContF K r w h' H (.lst ys) Q) :
    ∃ W : Nat → Nat → Hp → Prop, (∃ m, W 0 m (upd H D (.lst []))) ∧ ∀ i m H, W i m H → (J.stop i H ∧ Q (.ref D) H) ∨ (J.go i H ∧ ∃ Nx : Hp → Prop, (∀ H', Nx H' → ∃ m', m' < m ∧ W (i + 1) m' H') ∧
      ∀ x H', J.yld i H x H' → g x (L2.wipe z own) H' fun z2 H2 => L2.wipe z2 own = L2.wipe z own ∧ tT K c z2 H2 fun b H3 => if b = true then tM K e z2 H3 fun y H4 => ∃ acc, H4 D = some (.lst acc) ∧ acc.length < sizeLine ∧ Nx (upd H4 D (.lst (acc ++ [y]))) else Nx H3) := by
  have nD : D ∉ w := R.ninw hD
  let I : Nat → Nat → List MV → Hp → Prop := fun i m acc H1 => ∃ r1 h1 us, Fwd r H r1 H1 ∧ Rel K r1 (D :: w) h1 H1 ∧ SR K r1 (D :: w) H1 (wipeM s own) (L2.wipe z own) ∧ H1 D = some (.lst us) ∧ VRs K r1 (D :: w) H1 acc us ∧ lcCell gm c e nc m i acc (wipeM s own) h1 = some (ys, h')
  refine ⟨fun i n H1 => ∃ acc, I i n acc H1, ⟨t, [], r, h, [], Fwd.new r hD, R.hold hD, (S.map (Stp.hold R hD)).wipe own, upd_same, by simp [VRs], ev⟩, ?_⟩
  rintro i n H1 ⟨acc, r1, h1, us, F1, R1, S1, eD, V1, e1⟩
  have st : Stp r w H r1 (D :: w) H1 := ⟨fun n a hn => F1.at_ hn, fun a o n ea => ⟨⟨F1.nin n.1 ea, fun hm => by
    rcases List.mem_cons.mp hm with q | q
    · rw [q, hD] at ea; cases ea
    · exact n.2 q⟩, .inl (F1.keep a o n.1 ea)⟩⟩
  cases n with
  | zero => simp [lcCell] at e1
  | succ n =>
    simp only [lcCell] at e1
    split at e1
    · rename_i xs e0
      cases ex : xs[i]? with
      | none =>
        simp only [ex, Option.some.injEq, Prod.mk.injEq] at e1
        obtain ⟨rfl, rfl⟩ := e1
        refine .inl ⟨Wk.stop i r1 _ H1 h1 xs st R1 e0 ex, C r1 D H1 F1 hD R1 ?_⟩
        simp only [VF]
        exact ⟨us, eD, V1⟩
      | some v =>
        simp only [ex] at e1
        obtain ⟨hgo, hy⟩ := Wk.at_ i r1 _ H1 h1 xs v st R1 e0 ex
        refine .inr ⟨hgo, fun H2 => ∃ acc, I (i + 1) n acc H2, fun H2 q => ⟨n, Nat.lt_succ_self n, q⟩, fun x H2 hx => ?_⟩
        obtain ⟨eH, Vv⟩ := hy x H2 hx
        subst eH
        cases e2 : gm v (wipeM s own) h1 with
        | none => simp [e2] at e1
        | some p2 =>
          obtain ⟨s3, h3⟩ := p2
          simp only [e2] at e1
          have nDr : D ∉ r1 := (R1.wh D List.mem_cons_self).1
          obtain ⟨rfl, kg⟩ := tg.at_ r1 (D :: w) _ h1 v s3 h3 x _ H2 _ R1 S1 Vv e2
          refine kg fun z3 S3 wz => ⟨by rw [wz, show L2.wipe (L2.wipe z own) own = L2.wipe z own from by
            apply List.ext_getElem?
            intro j
            rw [wipe_get, wipe_get, wipe_length]
            split <;> rfl], ?_⟩
          cases e3 : c s3 h3 with
          | none => simp [e3] at e1
          | some p3 =>
            obtain ⟨b, h4⟩ := p3
            refine ⟨r1, _, s3, h3, b, h4, R1, S3, e3, fun r4 H4 F4 R4 => ?_⟩
            have F14 := F1.tr R1 F4
            have eD4 : H4 D = some (.lst us) := F4.keep D _ nDr eD
            have V4 := VRs.fwd F4 _ _ V1
            cases b with
            | false =>
              simp only [e3] at e1
              exact iteF ⟨acc, r4, h4, us, F14, R4, S1.fwd F4, eD4, V4, e1⟩
            | true =>
              simp only [e3] at e1
              cases e5 : e s3 h4 with
              | none => simp [e5] at e1
              | some p5 =>
                obtain ⟨v5, h5⟩ := p5
                simp only [e5] at e1
                split at e1
                · rename_i hz
                  refine iteT ⟨r4, _, s3, h4, v5, h5, R4, S3.fwd F4, e5, fun r5 u5 H5 F5 R5 V5 => ?_⟩
                  have nDr4 : D ∉ r4 := (R4.wh D List.mem_cons_self).1
                  have eD5 : H5 D = some (.lst us) := F5.keep D _ nDr4 eD4
                  have V5' := VRs.fwd F5 _ _ V4
                  have hm : D ∈ D :: w := List.mem_cons_self
                  have F15 := F14.tr R4 F5
                  refine ⟨us, eD5, by rw [← VRs.length V5', ← szl]; exact hz, acc ++ [v5], r5, h5, us ++ [u5], ⟨F15.ext, fun a o n ea => ?_, fun a o u ea => ?_⟩, R5.held hm, ((S1.fwd F4).fwd F5).map (Stp.held hm), upd_same, VRs.map (Stp.held hm) _ _ (VRs.append V5' (VRs.one V5)), e1⟩
                  · rw [upd_ne (ne_of_none ea hD)]; exact F15.keep a o n ea
                  · rw [upd_ne (ne_of_none ea hD)]; exact F15.frz a o u ea
                · cases e1
    · cases e1
/-- the reading of a comprehension -/
theorem lc_wk {K : PySem.W.Frag} {g : TG} {gm : XG} {c : XT} {e : XE} {own : List Nat} {it : XI} (tg : TgOk K own g gm) : ∀ z H Q, tF K (xLc it gm c e own) z H Q → tLc (tI K it) g (tT K c) (tM K e) own z H Q := fun z H Q ⟨r, w, s, h, v, h', R, S, ev, C⟩ => by
  unfold xLc at ev
  cases e1 : it s h with
  | none => simp [e1] at ev
  | some p1 =>
    obtain ⟨k, h1⟩ := p1
    simp only [e1] at ev
    refine ⟨r, w, s, h, k, h1, R, S, e1, fun r1 J H1 F1 R1 Wk D hD => ?_⟩
    cases k with
    | vals xs =>
      simp only at ev
      cases e2 : lcGo gm c e [] xs (wipeM s own) h1 with
      | none => simp [e2] at ev
      | some p2 =>
        obtain ⟨ys, h2⟩ := p2
        simp only [e2, Option.some.injEq, Prod.mk.injEq] at ev
        obtain ⟨rfl, rfl⟩ := ev
        exact lc_vals Wk tg R1 (S.fwd F1) hD e2 (C.fwd F1 R1)
    | cell n =>
      simp only at ev
      cases e2 : fuel fun t => lcCell gm c e n t 0 [] (wipeM s own) h1 with
      | none => simp [e2] at ev
      | some p2 =>
        obtain ⟨ys, h2⟩ := p2
        simp only [e2, Option.some.injEq, Prod.mk.injEq] at ev
        obtain ⟨rfl, rfl⟩ := ev
        obtain ⟨t, e2⟩ := fuel_at e2
        exact lc_cell Wk tg R1 (S.fwd F1) hD e2 (C.fwd F1 R1)
abbrev MTs (X : Cx) (ifs : List Expr) (c : XT) : Prop := PTs X ifs (tT X.K c)
theorem mts_nil {X : Cx} : MTs X [] cYes := ⟨fun pins s z H Q I ⟨r, w, s', h, v, h', R, S, e, C⟩ => pts_nil.run pins s z H Q I (by
  simp only [cYes, Option.some.injEq, Prod.mk.injEq] at e
  obtain ⟨rfl, rfl⟩ := e
  exact C r H (Fwd.refl r H) R)⟩
theorem mts_one {X : Cx} {c : Expr} {ta : XT} (h : MT X c ta) : MTs X [c] ta := pts_one h
theorem tF_val {K : PySem.W.Frag} {m : XE} : ∀ z H Q, tM K m z H Q → tF K m z H Q := fun z H Q ⟨r, w, s, h, v, h', R, S, e, C⟩ => ⟨r, w, s, h, v, h', R, S, e, fun r' p H' F n R' q => by
  refine C r' (.ref p) H' F R'.drop (VF.vr R'.drop ⟨(R'.wh p List.mem_cons_self).1, R.ninw n⟩ (VF.map Stp.drop rfl q))⟩
section
variable {X : Cx} {elt tg iter : Expr} {ifs : List Expr} {scope : Scope} {own : List (Str × Nat)} {pos spos : Pos} {it : XI} {g : TG} {gm : XG} {c : XT} {me : XE}
/-- [elt for tg in iter if ..] -/
theorem mf_lc (hN : X.N.Nodup) (hi : MII X tg iter it) (ok : blkC X.N X.env.scope scope own = true) (tk : TgOk X.K (own.map (·.2)) g gm)
    (hg : ∀ (s : Shared) (H : Hp) (C : Addr) (cl : List (Str × Addr)) (fp : List Addr), PG (X.blk s H scope (compEnvC scope cl C X.env) fp) tg g)
    (ht : ∀ (s : Shared) (H : Hp) (C : Addr) (cl : List (Str × Addr)) (fp : List Addr), MTs (X.blk s H scope (compEnvC scope cl C X.env) fp) ifs c)
    (he : ∀ (s : Shared) (H : Hp) (C : Addr) (cl : List (Str × Addr)) (fp : List Addr), ME (X.blk s H scope (compEnvC scope cl C X.env) fp) elt me) (hs : ∀ x, foldedSetIterable iter X.env x = pure x := by intro _; rfl) (hc : X.calm = true := by rfl) :
    MF X (.ListComp elt [⟨tg, iter, ifs, 0⟩] scope pos) (xLc it gm c me (own.map (·.2))) := PE.wk (pe_lc hc hN hi (blkOk_by ok) hg ht he hs) (lc_wk tk)
/-- y = [elt for ..], as a value or as a cell (m) -/
theorem ms_setLc {n : Nat} {y : Str} {py : Pos} {m : XE} (hm : ∀ z H Q, tM X.K m z H Q → tF X.K (xLc it gm c me (own.map (·.2))) z H Q) (hN : X.N.Nodup) (hi : MII X tg iter it) (ok : blkC X.N X.env.scope scope own = true) (tk : TgOk X.K (own.map (·.2)) g gm)
    (hg : ∀ (s : Shared) (H : Hp) (C : Addr) (cl : List (Str × Addr)) (fp : List Addr), PG (X.blk s H scope (compEnvC scope cl C X.env) fp) tg g)
    (ht : ∀ (s : Shared) (H : Hp) (C : Addr) (cl : List (Str × Addr)) (fp : List Addr), MTs (X.blk s H scope (compEnvC scope cl C X.env) fp) ifs c)
    (he : ∀ (s : Shared) (H : Hp) (C : Addr) (cl : List (Str × Addr)) (fp : List Addr), ME (X.blk s H scope (compEnvC scope cl C X.env) fp) elt me)
    (hsw : swapsWith (.ListComp elt [⟨tg, iter, ifs, 0⟩] scope pos) (some (.Name y py)) spos.line X.env = pure true) (hy : X.N[n]? = some y := by rfl) (hyl : X.env.scope.names.lookup y = some .local := by rfl) (hs : ∀ x, foldedSetIterable iter X.env x = pure x := by intro _; rfl) (hc : X.calm = true := by rfl) :
    MS X (.Assign [.Name y py] (.ListComp elt [⟨tg, iter, ifs, 0⟩] scope pos) spos) (sSet n m) := PS.wk (ps_setLc hc hN hy hyl hsw hi (blkOk_by ok) hg ht he hs) fun D z H ⟨r, w, s, h, f, s', h', R, S, e, C⟩ => by
  refine lc_wk tk z H _ (hm z H _ ?_)
  unfold sSet sAsg at e
  cases e1 : m s h with
  | none => simp [e1] at e
  | some p1 =>
    obtain ⟨v, h1⟩ := p1
    simp only [e1, gNm, Option.some.injEq, Prod.mk.injEq] at e
    obtain ⟨rfl, rfl, rfl⟩ := e
    exact ⟨r, w, s, h, v, h1, R, S, e1, fun r1 u H1 F1 R1 V1 => C r1 _ H1 F1 R1 ((S.fwd F1).set n V1)⟩
end
/-! ### defs -/
section
variable (K : PySem.W.Frag)
/-- what a def's function promises; where what it hands back is a fresh list or dict -/
def spM (n : Nat) (g : Fn) : Sp := fun us H Q _ => us.length = n ∧ ∃ r w h vs v h', Rel K r w h H ∧ VRs K r w H vs us ∧ g vs h = some (v, h') ∧ Cont K r w h' H v Q
def spF (n : Nat) (g : Fn) : Sp := fun us H Q _ => us.length = n ∧ ∃ r w h vs v h', Rel K r w h H ∧ VRs K r w H vs us ∧ g vs h = some (v, h') ∧ ContF K r w h' H v Q
end
/-- a def of the text that keeps a promise -/
def Cal (P : Program) (w : World) (K : PySem.W.Frag) (mg : Str → Option Value) (base : Heap) (x : Str) (n : Nat) (sp : Sp) (k : Nat) : Prop :=
  ∃ (f : Addr) (fd : FuncData) (ps : List Str), FnOk P w K mg base CX0 k f fd ps sp ∧ ps.length = n ∧ mg x = some (.ref f) ∧ PySem.W.keepIn K (.ref f) = true ∧ Binds K fd ps []
section
variable {P : Program} {w : World} {K : PySem.W.Frag} {mg : Str → Option Value} {base : Heap} {x : Str} {n k : Nat}
theorem Cal.imp {sp sp' : Sp} (h : Cal P w K mg base x n sp k) (i : ∀ vs H Q E, sp' vs H Q E → sp vs H Q E) : Cal P w K mg base x n sp' k := by
  obtain ⟨f, fd, ps, F, a, b, c, d⟩ := h
  exact ⟨f, fd, ps, F.imp i, a, b, c, d⟩
/-- the def st, its body's function b -/
theorem def_fn {N ps : List Str} {st : Stmt} {f : Addr} {fd : FuncData} {b : XS} (F : L2.Fun K x x st f fd) (S : FnScope N ps (defScope st))
    (body : ∀ (cdv : Value) (A : Around) (outer : List Env) (s : Shared) (H : Hp) (E : XK), Room k (A.deeper (envOfC x (defScope st) s.heap.objs.size f cdv)) →
      MSs (cxOf CX0 P w K mg base N x (defScope st) f cdv A outer s H E).nox (defBody st) b) : FnOk P w K mg base CX0 (k + 1) f fd ps (spM K ps.length (runDef N.length b)) := by
  refine F.ok S (fun vs H Q E h => h.1) (fun cdv A outer s H us Q E hr h => ?_)
  obtain ⟨hl, r, w', hh, vs, v, h', R, V, e, C⟩ := h
  refine ⟨_, body cdv A outer s H E hr, ?_⟩
  have S0 : SR K r w' H (sBegin N.length vs) (L2.start N us) := by
    have hvl := VRs.length V
    refine ⟨by simp [sBegin, L2.start, hvl], fun i y ey => ?_⟩
    unfold sBegin at ey
    unfold L2.start
    by_cases hi : i < vs.length
    · rw [List.getElem?_append_left (by simpa using hi), List.getElem?_map] at ey
      cases ev : vs[i]? with
      | none => rw [ev] at ey; simp at ey
      | some y' =>
        rw [ev] at ey
        simp only [Option.map_some, Option.some.injEq] at ey
        subst ey
        obtain ⟨u, e1, e2⟩ := VRs.get V ev
        refine ⟨u, ?_, e2⟩
        rw [List.getElem?_append_left (by simpa [← hvl] using hi), List.getElem?_map, e1]
        rfl
    · rw [List.getElem?_append_right (by simpa using hi), List.getElem?_replicate] at ey
      split at ey <;> cases ey
  unfold runDef at e
  split at e
  · rename_i v1 s1 h1 e1
    simp only [Option.some.injEq, Prod.mk.injEq] at e
    obtain ⟨rfl, rfl⟩ := e
    exact ⟨r, w', _, hh, .rt v1, s1, h1, R, S0, e1, C⟩
  · rename_i s1 h1 e1
    simp only [Option.some.injEq, Prod.mk.injEq] at e
    obtain ⟨rfl, rfl⟩ := e
    exact ⟨r, w', _, hh, .nx, s1, h1, R, S0, e1, fun r1 z1 H1 F1 R1 S1 => C r1 .non H1 F1 R1 (by simp only [VR])⟩
  · cases e
theorem def_ok {N ps : List Str} {st : Stmt} {f : Addr} {fd : FuncData} {b : XS} (F : L2.Fun K x x st f fd) (hg : mg x = some (.ref f)) (S : FnScope N ps (defScope st))
    (hb : ∀ (kV doc pm : Value) (an : Option Addr) (cdv ct : Value) (us : List Value), us.length = ps.length → bindArgs (PySem.W.fnOf x x (defArgs st) (defBody st) (defScope st) .none kV doc pm an cdv ct) ⟨us, []⟩ = pure (ps.zip us))
    (body : ∀ (cdv : Value) (A : Around) (outer : List Env) (s : Shared) (H : Hp) (E : XK), Room k (A.deeper (envOfC x (defScope st) s.heap.objs.size f cdv)) →
      MSs (cxOf CX0 P w K mg base N x (defScope st) f cdv A outer s H E).nox (defBody st) b) : Cal P w K mg base x ps.length (spM K ps.length (runDef N.length b)) (k + 1) :=
  ⟨f, fd, ps, def_fn F S body, rfl, hg, F.kp, F.binds hb⟩
end
section
variable {X : Cx} {e : Expr} {es : List Expr} {mas : XA} {x : Str} {p pos : Pos} {n k j : Nat} {g : Fn}
theorem me_call (F : Cal X.prog X.w X.K X.mg X.base x n (spM X.K n g) j) (hr : Room k X.A) (ha : MA X (e :: es) mas) (hj : j ≤ k := by decide) (hn : (e :: es).length = n := by rfl) (hg : Gl X x := by rfl) (hdb : (x == ("__debug__" : Str)) = false := by decide +kernel)
    (he : starEach (e :: es) X.env = (false, eval e X.env) :: starEach es X.env := by rfl) (hpl : (backTo pos (starEach es X.env)).any (·.1) = false := by rfl) : ME X (.Call (.Name x p) (e :: es) [] pos) (xCall g mas) := by
  obtain ⟨f, fd, ps, F, hps, hm, hk, hb⟩ := F
  refine PE.wk (pe_call F (hr.mono hj) hg hm hk hb .nil pass0 ha.pa hdb he hpl) fun z H Q ⟨r, w, s, h, v, h', R, S, e, C⟩ => ?_
  unfold xCall at e
  cases e1 : mas s h with
  | none => simp [e1] at e
  | some p1 =>
    obtain ⟨xs, h1⟩ := p1
    simp only [e1] at e
    refine ⟨r, w, s, h, xs, h1, R, S, e1, fun r1 us H1 F1 R1 V1 => ?_⟩
    show spM X.K n g (us ++ []) H1 Q E0
    rw [List.append_nil]
    exact ⟨by rw [← VRs.length V1, ha.len _ _ _ _ e1]; exact hn, r1, w, h1, xs, v, h', R1, V1, e, C.fwd F1 R1⟩
theorem mf_call (F : Cal X.prog X.w X.K X.mg X.base x n (spF X.K n g) j) (hr : Room k X.A) (ha : MA X (e :: es) mas) (hj : j ≤ k := by decide) (hn : (e :: es).length = n := by rfl) (hg : Gl X x := by rfl) (hdb : (x == ("__debug__" : Str)) = false := by decide +kernel)
    (he : starEach (e :: es) X.env = (false, eval e X.env) :: starEach es X.env := by rfl) (hpl : (backTo pos (starEach es X.env)).any (·.1) = false := by rfl) : MF X (.Call (.Name x p) (e :: es) [] pos) (xCall g mas) := by
  obtain ⟨f, fd, ps, F, hps, hm, hk, hb⟩ := F
  refine PE.wk (pe_call F (hr.mono hj) hg hm hk hb .nil pass0 ha.pa hdb he hpl) fun z H Q ⟨r, w, s, h, v, h', R, S, e, C⟩ => ?_
  unfold xCall at e
  cases e1 : mas s h with
  | none => simp [e1] at e
  | some p1 =>
    obtain ⟨xs, h1⟩ := p1
    simp only [e1] at e
    refine ⟨r, w, s, h, xs, h1, R, S, e1, fun r1 us H1 F1 R1 V1 => ?_⟩
    show spF X.K n g (us ++ []) H1 Q E0
    rw [List.append_nil]
    exact ⟨by rw [← VRs.length V1, ha.len _ _ _ _ e1]; exact hn, r1, w, h1, xs, v, h', R1, V1, e, C.fwd F1 R1⟩
theorem me_call0 (F : Cal X.prog X.w X.K X.mg X.base x 0 (spM X.K 0 g) j) (hr : Room k X.A) (hj : j ≤ k := by decide) (hg : Gl X x := by rfl) (hdb : (x == ("__debug__" : Str)) = false := by decide +kernel) : ME X (.Call (.Name x p) [] [] pos) (xCall g xNil) := by
  obtain ⟨f, fd, ps, F, hps, hm, hk, hb⟩ := F
  refine PE.wk (pe_call0 F (hr.mono hj) hg hm hk hb .nil pass0 hdb) fun z H Q ⟨r, w, s, h, v, h', R, S, e, C⟩ => ?_
  simp only [xCall, xNil] at e
  exact ⟨rfl, r, w, h, [], v, h', R, by simp [VRs], e, C⟩
end
end Ew
end

section
set_option Elab.async false
set_option linter.all false
set_option maxRecDepth 100000
set_option maxHeartbeats 4000000
/-! EwI: what a def's function does told to its callers; the law's end. -/
namespace Ew
open PySem PySem.Spec PyProof.Rows L2
section
variable {K : PySem.W.Frag} {r ps w w' : List Addr} {H : Hp} {h2 : MH} {x : Nat}
/-- what stands at a new cell is out of the old ones -/
theorem out_new (R : Rel K (r ++ ps) w h2 H) (hw : ∀ d ∈ w', d ∈ w ∨ (r ++ ps)[x]? = some d) {m : Nat} {a : Addr} (hm : (r ++ ps)[m]? = some a) (hn : r.length ≤ m) (hx : m ≠ x) : Out r w' a := by
  have hl := (List.getElem?_eq_some_iff.mp hm).1
  refine ⟨fun ha => ?_, fun ha => ?_⟩
  · obtain ⟨i, hi⟩ := List.getElem?_of_mem ha
    have hil := (List.getElem?_eq_some_iff.mp hi).1
    have hi2 : (r ++ ps)[i]? = some a := by rw [List.getElem?_append_left hil]; exact hi
    have := (List.getElem?_inj (List.getElem?_eq_some_iff.mp hi2).1 R.nd).mp (hi2.trans hm.symm)
    omega
  · rcases hw a ha with q | q
    · exact (R.wh a q).1 (List.mem_of_getElem? hm)
    · have := (List.getElem?_inj hl R.nd).mp (hm.trans q.symm)
      exact hx this
theorem out_old (hw : ∀ d ∈ w', d ∈ w ∨ (r ++ ps)[x]? = some d) {a : Addr} (n : Out (r ++ ps) w a) : Out r w' a :=
  ⟨fun q => n.1 (List.mem_append_left _ q), fun q => by
    rcases hw a q with z | z
    · exact n.2 z
    · exact n.1 (List.mem_of_getElem? z)⟩
mutual
theorem frz_vr (R : Rel K (r ++ ps) w h2 H) (hw : ∀ d ∈ w', d ∈ w ∨ (r ++ ps)[x]? = some d) : ∀ (y v : MV) (u : V), Frz h2 r.length x v y → VR K (r ++ ps) w H v u → VR K r w' H y u
  | .non, v, u, f, q => by simp only [Frz] at f; subst f; simpa [VR] using q
  | .bl _, v, u, f, q => by simp only [Frz] at f; subst f; simpa [VR] using q
  | .int _, v, u, f, q => by simp only [Frz] at f; subst f; simpa [VR] using q
  | .str _, v, u, f, q => by simp only [Frz] at f; subst f; simpa [VR] using q
  | .scr _, v, u, f, q => by
    simp only [Frz] at f; subst f
    simp only [VR] at q ⊢
    obtain ⟨a, e, q⟩ := q
    rcases q with ⟨n, q⟩ | q
    · exact ⟨a, e, .inl ⟨out_old hw n, q⟩⟩
    · exact ⟨a, e, .inr q⟩
  | .ref m, v, u, f, q => by
    simp only [Frz] at f
    obtain ⟨rfl, hm⟩ := f
    simp only [VR] at q ⊢
    obtain ⟨a, e, q⟩ := q
    rw [List.getElem?_append_left hm] at q
    exact ⟨a, e, q⟩
  | .tup ys, v, u, f, q => by
    simp only [Frz] at f
    obtain ⟨xs, rfl, f⟩ := f
    simp only [VR] at q ⊢
    obtain ⟨a, us, e, t, q⟩ := q
    exact ⟨a, us, e, ⟨out_old hw t.1, t.2⟩, frzs_vr R hw ys xs us f q⟩
  | .lst ys, v, u, f, q => by
    simp only [Frz] at f
    rcases f with ⟨xs, rfl, f⟩ | ⟨m, xs, rfl, hn, hx, hm, f⟩
    · simp only [VR] at q ⊢
      obtain ⟨a, us, e, n, t, q⟩ := q
      exact ⟨a, us, e, out_old hw n, t, frzs_vr R hw ys xs us f q⟩
    · simp only [VR] at q ⊢
      obtain ⟨a, e, q⟩ := q
      have hc := R.at_ m a _ q hm
      simp only [CRel] at hc
      obtain ⟨us, t, qs⟩ := hc
      exact ⟨a, us, e, out_new R hw q hn hx, t, frzs_vr R hw ys xs us f qs⟩
  | .dK ys, v, u, f, q => by
    simp only [Frz] at f
    rcases f with ⟨xs, rfl, f⟩ | ⟨m, xs, rfl, hn, hx, hm, f⟩
    · simp only [VR] at q ⊢
      obtain ⟨a, us, e, n, t, q⟩ := q
      exact ⟨a, us, e, out_old hw n, t, frzk_vr R hw ys xs us f q⟩
    · simp only [VR] at q ⊢
      obtain ⟨a, e, q⟩ := q
      have hc := R.at_ m a _ q hm
      simp only [CRel] at hc
      obtain ⟨us, t, qs⟩ := hc
      exact ⟨a, us, e, out_new R hw q hn hx, .inl t, frzk_vr R hw ys xs us f qs⟩
  | .dT ys, v, u, f, q => by
    simp only [Frz] at f
    rcases f with ⟨xs, rfl, f⟩ | ⟨m, xs, rfl, hn, hx, hm, f⟩
    · simp only [VR] at q ⊢
      obtain ⟨a, us, e, n, t, q⟩ := q
      exact ⟨a, us, e, out_old hw n, t, frzt_vr R hw ys xs us f q⟩
    · simp only [VR] at q ⊢
      obtain ⟨a, e, q⟩ := q
      have hc := R.at_ m a _ q hm
      simp only [CRel] at hc
      obtain ⟨us, t, qs⟩ := hc
      exact ⟨a, us, e, out_new R hw q hn hx, .inl t, frzt_vr R hw ys xs us f qs⟩
theorem frzs_vr (R : Rel K (r ++ ps) w h2 H) (hw : ∀ d ∈ w', d ∈ w ∨ (r ++ ps)[x]? = some d) : ∀ (y v : List MV) (u : List V), Frzs h2 r.length x v y → VRs K (r ++ ps) w H v u → VRs K r w' H y u
  | [], v, u, f, q => by simp only [Frzs] at f; subst f; simpa [VRs] using q
  | y :: ys, v, u, f, q => by
    simp only [Frzs] at f
    obtain ⟨v1, vs, rfl, f1, f2⟩ := f
    simp only [VRs] at q ⊢
    obtain ⟨u1, t, rfl, q1, q2⟩ := q
    exact ⟨u1, t, rfl, frz_vr R hw y v1 u1 f1 q1, frzs_vr R hw ys vs t f2 q2⟩
theorem frzk_vr (R : Rel K (r ++ ps) w h2 H) (hw : ∀ d ∈ w', d ∈ w ∨ (r ++ ps)[x]? = some d) : ∀ (y v : List (MK × MV)) (u : List (Key × V)), Frzk h2 r.length x v y → VRk K (r ++ ps) w H v u → VRk K r w' H y u
  | [], v, u, f, q => by simp only [Frzk] at f; subst f; simpa [VRk] using q
  | (k, y) :: ys, v, u, f, q => by
    simp only [Frzk] at f
    obtain ⟨v1, vs, rfl, f1, f2⟩ := f
    simp only [VRk] at q ⊢
    obtain ⟨u1, t, rfl, q1, q2⟩ := q
    exact ⟨u1, t, rfl, frz_vr R hw y v1 u1 f1 q1, frzk_vr R hw ys vs t f2 q2⟩
theorem frzt_vr (R : Rel K (r ++ ps) w h2 H) (hw : ∀ d ∈ w', d ∈ w ∨ (r ++ ps)[x]? = some d) : ∀ (y v : List (List MK × MV)) (u : List (List Key × V)), Frzt h2 r.length x v y → VRt K (r ++ ps) w H v u → VRt K r w' H y u
  | [], v, u, f, q => by simp only [Frzt] at f; subst f; simpa [VRt] using q
  | (k, y) :: ys, v, u, f, q => by
    simp only [Frzt] at f
    obtain ⟨v1, vs, rfl, f1, f2⟩ := f
    simp only [VRt] at q ⊢
    obtain ⟨u1, t, rfl, q1, q2⟩ := q
    exact ⟨u1, t, rfl, frz_vr R hw y v1 u1 f1 q1, frzt_vr R hw ys vs t f2 q2⟩
end
/-! what stood already speaks of what stood already -/
mutual
theorem vr_old {H0 : Hp} {w0 : List Addr} (R : Rel K (r ++ ps) w h2 H) (hw : ∀ d ∈ w', d ∈ w ∨ (r ++ ps)[x]? = some d) : ∀ (v : MV) (u0 u : V), VR K r w0 H0 v u0 → VR K (r ++ ps) w H v u → VR K r w' H v u
  | .non, _, u, f, q => by simpa [VR] using q
  | .bl _, _, u, f, q => by simpa [VR] using q
  | .int _, _, u, f, q => by simpa [VR] using q
  | .str _, _, u, f, q => by simpa [VR] using q
  | .scr _, _, u, f, q => by
    simp only [VR] at q ⊢
    obtain ⟨a, e, q⟩ := q
    rcases q with ⟨n, q⟩ | q
    · exact ⟨a, e, .inl ⟨out_old hw n, q⟩⟩
    · exact ⟨a, e, .inr q⟩
  | .ref m, u0, u, f, q => by
    simp only [VR] at f q ⊢
    obtain ⟨a0, _, hm⟩ := f
    obtain ⟨a, e, q⟩ := q
    rw [List.getElem?_append_left (List.getElem?_eq_some_iff.mp hm).1] at q
    exact ⟨a, e, q⟩
  | .tup ys, u0, u, f, q => by
    simp only [VR] at f q ⊢
    obtain ⟨_, us0, _, _, f⟩ := f
    obtain ⟨a, us, e, t, q⟩ := q
    exact ⟨a, us, e, ⟨out_old hw t.1, t.2⟩, vrs_old R hw ys us0 us f q⟩
  | .lst ys, u0, u, f, q => by
    simp only [VR] at f q ⊢
    obtain ⟨_, us0, _, _, _, f⟩ := f
    obtain ⟨a, us, e, n, t, q⟩ := q
    exact ⟨a, us, e, out_old hw n, t, vrs_old R hw ys us0 us f q⟩
  | .dK ys, u0, u, f, q => by
    simp only [VR] at f q ⊢
    obtain ⟨_, us0, _, _, _, f⟩ := f
    obtain ⟨a, us, e, n, t, q⟩ := q
    exact ⟨a, us, e, out_old hw n, t, vrk_old R hw ys us0 us f q⟩
  | .dT ys, u0, u, f, q => by
    simp only [VR] at f q ⊢
    obtain ⟨_, us0, _, _, _, f⟩ := f
    obtain ⟨a, us, e, n, t, q⟩ := q
    exact ⟨a, us, e, out_old hw n, t, vrt_old R hw ys us0 us f q⟩
theorem vrs_old {H0 : Hp} {w0 : List Addr} (R : Rel K (r ++ ps) w h2 H) (hw : ∀ d ∈ w', d ∈ w ∨ (r ++ ps)[x]? = some d) : ∀ (v : List MV) (u0 u : List V), VRs K r w0 H0 v u0 → VRs K (r ++ ps) w H v u → VRs K r w' H v u
  | [], _, u, f, q => by simpa [VRs] using q
  | y :: ys, u0, u, f, q => by
    simp only [VRs] at f q ⊢
    obtain ⟨_, _, _, f1, f2⟩ := f
    obtain ⟨u1, t, rfl, q1, q2⟩ := q
    exact ⟨u1, t, rfl, vr_old R hw y _ u1 f1 q1, vrs_old R hw ys _ t f2 q2⟩
theorem vrk_old {H0 : Hp} {w0 : List Addr} (R : Rel K (r ++ ps) w h2 H) (hw : ∀ d ∈ w', d ∈ w ∨ (r ++ ps)[x]? = some d) : ∀ (v : List (MK × MV)) (u0 u : List (Key × V)), VRk K r w0 H0 v u0 → VRk K (r ++ ps) w H v u → VRk K r w' H v u
  | [], _, u, f, q => by simpa [VRk] using q
  | (k, y) :: ys, u0, u, f, q => by
    simp only [VRk] at f q ⊢
    obtain ⟨_, _, _, f1, f2⟩ := f
    obtain ⟨u1, t, rfl, q1, q2⟩ := q
    exact ⟨u1, t, rfl, vr_old R hw y _ u1 f1 q1, vrk_old R hw ys _ t f2 q2⟩
theorem vrt_old {H0 : Hp} {w0 : List Addr} (R : Rel K (r ++ ps) w h2 H) (hw : ∀ d ∈ w', d ∈ w ∨ (r ++ ps)[x]? = some d) : ∀ (v : List (List MK × MV)) (u0 u : List (List Key × V)), VRt K r w0 H0 v u0 → VRt K (r ++ ps) w H v u → VRt K r w' H v u
  | [], _, u, f, q => by simpa [VRt] using q
  | (k, y) :: ys, u0, u, f, q => by
    simp only [VRt] at f q ⊢
    obtain ⟨_, _, _, f1, f2⟩ := f
    obtain ⟨u1, t, rfl, q1, q2⟩ := q
    exact ⟨u1, t, rfl, vr_old R hw y _ u1 f1 q1, vrt_old R hw ys _ t f2 q2⟩
end
theorem crel_old {H0 : Hp} {w0 : List Addr} (R : Rel K (r ++ ps) w h2 H) (hw : ∀ d ∈ w', d ∈ w ∨ (r ++ ps)[x]? = some d) {a a0 : Addr} {c : MC} (f : CRel K r w0 H0 a0 c) (q : CRel K (r ++ ps) w H a c) : CRel K r w' H a c := by
  cases c <;> simp only [CRel] at f q ⊢
  · obtain ⟨us0, _, f⟩ := f; obtain ⟨us, e, q⟩ := q; exact ⟨us, e, vrs_old R hw _ us0 us f q⟩
  · obtain ⟨us0, _, f⟩ := f; obtain ⟨us, e, q⟩ := q; exact ⟨us, e, vrk_old R hw _ us0 us f q⟩
  · obtain ⟨us0, _, f⟩ := f; obtain ⟨us, e, q⟩ := q; exact ⟨us, e, vrt_old R hw _ us0 us f q⟩
  · obtain ⟨_, us0, _, f⟩ := f; obtain ⟨o, us, e, q⟩ := q; exact ⟨o, us, e, vrk_old R hw _ us0 us f q⟩
  · obtain ⟨_, us0, _, f⟩ := f; obtain ⟨o, us, e, q⟩ := q; exact ⟨o, us, e, vrt_old R hw _ us0 us f q⟩
theorem crel_frz (R : Rel K (r ++ ps) w h2 H) (hw : ∀ d ∈ w', d ∈ w ∨ (r ++ ps)[x]? = some d) {a : Addr} {c2 c : MC} (f : CFrz h2 r.length x c2 c) (q : CRel K (r ++ ps) w H a c2) : CRel K r w' H a c := by
  cases c <;> cases c2 <;> simp only [CFrz] at f <;> simp only [CRel] at q ⊢
  · obtain ⟨us, e, q⟩ := q; exact ⟨us, e, frzs_vr R hw _ _ us f q⟩
  · obtain ⟨us, e, q⟩ := q; exact ⟨us, e, frzk_vr R hw _ _ us f q⟩
  · obtain ⟨us, e, q⟩ := q; exact ⟨us, e, frzt_vr R hw _ _ us f q⟩
  · obtain ⟨o, us, e, q⟩ := q; exact ⟨o, us, e, frzk_vr R hw _ _ us f q⟩
  · obtain ⟨o, us, e, q⟩ := q; exact ⟨o, us, e, frzt_vr R hw _ _ us f q⟩
/-- the cells that stood -/
theorem rel_cel {h h' : MH} {H0 : Hp} (R0 : Rel K r w h H0) (R : Rel K (r ++ ps) w h2 H) (hw : ∀ d ∈ w', d ∈ w ∨ (r ++ ps)[x]? = some d) (hx : ∀ d, (r ++ ps)[x]? = some d → d ∉ r) (c : CelOK h h2 h' x) (nd : ∀ d ∈ w', ∃ o, H d = some o) : Rel K r w' h' H := by
  obtain ⟨l1, l2, l3⟩ := c
  refine ⟨by rw [l1]; exact R0.len, R0.nd, fun i a c' hi hc' => ?_, fun d hd => ⟨?_, nd d hd⟩⟩
  · have hi2 : (r ++ ps)[i]? = some a := by rw [List.getElem?_append_left (List.getElem?_eq_some_iff.mp hi).1]; exact hi
    rcases l3 i c' hc' with ⟨e1, e2⟩ | ⟨c2, e1, e2⟩
    · exact crel_old R hw (R0.at_ i a c' hi e2) (R.at_ i a c' hi2 e1)
    · rw [← R0.len] at e2
      exact crel_frz R hw e2 (R.at_ i a c2 hi2 e1)
  · rcases hw d hd with q | q
    · exact fun z => (R.wh d q).1 (List.mem_append_left _ z)
    · exact hx d q
end
section
variable {P : Program} {w : World} {K : PySem.W.Frag} {mg : Str → Option Value} {base : Heap} {x : Str} {n k : Nat} {g c : Fn}
theorem Cal.told (F : Cal P w K mg base x n (spM K n g) k) (hc : ∀ args h v h', c args h = some (v, h') → FrzOK g args h v h') : Cal P w K mg base x n (spM K n c) k := F.imp fun us H Q E ⟨hl, r, w', h, vs, v, h', R, V, e, C⟩ => by
  obtain ⟨v2, h2, e2, cel, fz⟩ := hc vs h v h' e
  refine ⟨hl, r, w', h, vs, v2, h2, R, V, e2, fun r2 u H2 F2 R2 V2 => ?_⟩
  obtain ⟨⟨ps, rfl, hps⟩, kp, fr⟩ := F2
  have hx : ∀ d, (r ++ ps)[h2.length]? = some d → False := fun d e => by
    have := (List.getElem?_eq_some_iff.mp e).1
    rw [R2.len] at this
    omega
  rw [← R.len] at fz
  have hw : ∀ d ∈ w', d ∈ w' ∨ (r ++ ps)[h2.length]? = some d := fun d hd => .inl hd
  refine C r u H2 ⟨⟨[], by simp, fun _ z => nomatch z⟩, kp, fr⟩ (rel_cel R R2 hw (fun d e => (hx d e).elim) cel fun d hd => (R2.wh d hd).2) (frz_vr R2 hw v v2 u fz V2)
theorem Cal.fresh (F : Cal P w K mg base x n (spM K n g) k) (hc : ∀ args h v h', c args h = some (v, h') → FrzF g args h v h') : Cal P w K mg base x n (spF K n c) k := F.imp fun us H Q E ⟨hl, r, w', h, vs, v, h', R, V, e, C⟩ => by
  obtain ⟨m, c2, h2, e2, hm, em, cel, fz⟩ := hc vs h v h' e
  refine ⟨hl, r, w', h, vs, .ref m, h2, R, V, e2, fun r2 u H2 F2 R2 V2 => ?_⟩
  obtain ⟨⟨ps, rfl, hps⟩, kp, fr⟩ := F2
  simp only [VR] at V2
  obtain ⟨p, rfl, hp⟩ := V2
  have hpps : p ∈ ps := by
    rw [List.getElem?_append_right (by rw [R.len]; exact hm)] at hp
    exact List.mem_of_getElem? hp
  have hp0 : H p = none := hps p hpps
  have hpr : p ∉ r := R.nin hp0
  have hw : ∀ d ∈ p :: w', d ∈ w' ∨ (r ++ ps)[m]? = some d := fun d hd => by
    rcases List.mem_cons.mp hd with rfl | hd
    · exact .inr hp
    · exact .inl hd
  have hc2 := R2.at_ m p c2 hp em
  rw [← R.len] at fz
  have Rn : Rel K r (p :: w') h' H2 := rel_cel R R2 hw (fun d e => by rw [hp] at e; cases e; exact hpr) cel fun d hd => by
    rcases List.mem_cons.mp hd with rfl | hd
    · exact hc2.there
    · exact (R2.wh d hd).2
  refine C r p H2 ⟨⟨[], by simp, fun _ z => nomatch z⟩, kp, fr⟩ hp0 Rn ?_
  cases c2 <;> cases v <;> simp only at fz <;> simp only [CRel] at hc2 <;> simp only [VF]
  · obtain ⟨us, e, q⟩ := hc2; exact ⟨us, e, frzs_vr R2 hw _ _ us fz q⟩
  · obtain ⟨us, e, q⟩ := hc2; exact ⟨us, e, frzk_vr R2 hw _ _ us fz q⟩
  · obtain ⟨us, e, q⟩ := hc2; exact ⟨us, e, frzt_vr R2 hw _ _ us fz q⟩
end
/-! ### the law -/
/-- a def as it stands behind the top -/
def DefAt (K : PySem.W.Frag) (x : Str) (st : Stmt) (f : Addr) (fd : FuncData) : Prop := PySem.W.nsIn K mainGlobals x = some (some (.ref f)) ∧ L2.Fun K x x st f fd
theorem defAt_mk {K : PySem.W.Frag} {x : Str} {st : Stmt} {f : Addr} {od an : Option Addr} {sl : Array (Option Value)} {oc kV dc pm cd ct : Value} (a : PySem.W.nsIn K mainGlobals x = some (some (.ref f)))
    (l : K.lookup f = some ⟨oc, od, .func (PySem.W.fnOf x x (defArgs st) (defBody st) (defScope st) .none kV dc pm an cd ct), sl⟩) (c : PySem.W.codeIn K cd x = true) (k : PySem.W.keepIn K (.ref f) = true) :
    DefAt K x st f (PySem.W.fnOf x x (defArgs st) (defBody st) (defScope st) .none kV dc pm an cd ct) := ⟨a, fun_mk l c k⟩
/-- the law's promise from its function -/
def spLaw (K : PySem.W.Frag) : Sp := fun us H Q _ => ∃ (a : Addr) (ns : List Int), us = [.ref a] ∧ SqL K H a (ns.map V.int) ∧ ns.length ≤ 63 ∧ (∀ z ∈ ns, Builtin.Int.intBits z ≤ 1048576) ∧ Only H ∧ ∀ H', Q (.bl true) H'
theorem law_fn {P : Program} {w : World} {K : PySem.W.Frag} {mg : Str → Option Value} {base : Heap} {k : Nat} {f : Addr} {fd : FuncData} {ps : List Str} {g : Fn} (F : FnOk P w K mg base CX0 k f fd ps (spM K 1 g))
    (h : ∀ ns : List Int, ns.length ≤ 63 → (∀ z ∈ ns, Builtin.Int.intBits z ≤ 1048576) → ∃ h', g [.scr ns] [] = some (.bl true, h')) : FnOk P w K mg base CX0 k f fd ps (spLaw K) := F.imp fun us H Q E ⟨a, ns, e, sq, hl, hb, hO, q⟩ => by
  subst e
  obtain ⟨h', e⟩ := h ns hl hb
  refine ⟨rfl, [], [], [], [.scr ns], .bl true, h', ⟨rfl, List.nodup_nil, fun n a c hn => by simp at hn, fun d hd => nomatch hd⟩, ?_, e, fun r' u H' F' R' V' => ?_⟩
  · simp only [VRs, VR]
    refine ⟨.ref a, [], rfl, ⟨a, rfl, ?_⟩, rfl⟩
    rcases sq with (sq | ⟨o, sq⟩) | sq
    · rcases hO a with z | ⟨o, xs, z⟩
      · rw [z] at sq; cases sq
      · rw [z] at sq; cases sq
    · exact .inl ⟨⟨by simp, by simp⟩, o, sq⟩
    · exact .inr sq
  · simp only [VR] at V'
    subst V'
    exact q H'
end Ew
end

section
set_option linter.all false
set_option maxRecDepth 100000
/-! EwT: plain lemmas of the small machine: loops, numbers, data. -/
namespace Ew
open PySem (Str)
/-! ### composing -/
theorem seq_nx {a b : XS} {s s1 : SM} {h h1 : MH} (e : a s h = some (.nx, s1, h1)) : sSeq a b s h = b s1 h1 := by simp only [sSeq, e]
theorem seq_rt {a b : XS} {s s1 : SM} {h h1 : MH} {v : MV} (e : a s h = some (.rt v, s1, h1)) : sSeq a b s h = some (.rt v, s1, h1) := by simp only [sSeq, e]
theorem for_at {it : XI} {g : XG} {b : XS} {s : SM} {h h1 : MH} {xs : List MV} (e : it s h = some (.vals xs, h1)) : sFor it g b s h = forGo g b xs s h1 := by simp only [sFor, e]
theorem run_rt {n : Nat} {b : XS} {vs : List MV} {h h1 : MH} {s : SM} {v : MV} (e : b (sBegin n vs) h = some (.rt v, s, h1)) : runDef n b vs h = some (v, h1) := by simp only [runDef, e]
theorem run_nx {n : Nat} {b : XS} {vs : List MV} {h h1 : MH} {s : SM} (e : b (sBegin n vs) h = some (.nx, s, h1)) : runDef n b vs h = some (.non, h1) := by simp only [runDef, e]
/-! ### loops -/
/-- a walk that ends by itself -/
theorem forGo_run {g : XG} {b : XS} (I : Nat → SM → MH → Prop) (xs : List MV) (k : Nat) (s : SM) (h : MH) (h0 : I k s h)
    (step : ∀ i x s h, xs[i]? = some x → I (k + i) s h → ∃ s1 h1 f s2 h2, g x s h = some (s1, h1) ∧ b s1 h1 = some (f, s2, h2) ∧ (f = .nx ∨ f = .ct) ∧ I (k + i + 1) s2 h2) :
    ∃ s' h', forGo g b xs s h = some (.nx, s', h') ∧ I (k + xs.length) s' h' := by
  induction xs generalizing k s h with
  | nil => exact ⟨s, h, rfl, h0⟩
  | cons x xs ih =>
    obtain ⟨s1, h1, f, s2, h2, e1, e2, hf, i2⟩ := step 0 x s h rfl h0
    obtain ⟨s', h', e3, i3⟩ := ih (k + 1) s2 h2 i2 (fun i y s h ey hi => by
      have := step (i + 1) y s h ey (by rw [show k + (i + 1) = k + 1 + i by omega]; exact hi)
      rw [show k + (i + 1) + 1 = k + 1 + i + 1 by omega] at this
      exact this)
    refine ⟨s', h', ?_, by rw [List.length_cons, show k + (xs.length + 1) = k + 1 + xs.length by omega]; exact i3⟩
    rcases hf with rfl | rfl <;> simp only [forGo, e1, e2, e3]
/-- a walk that may end early: at each turn it goes on with I or ends with E -/
theorem forGo_ret {g : XG} {b : XS} (I : Nat → SM → MH → Prop) (E : Fl → SM → MH → Prop) (xs : List MV) (k : Nat) (s : SM) (h : MH) (h0 : I k s h) (fin : ∀ s h, I (k + xs.length) s h → E .nx s h)
    (step : ∀ i x s h, xs[i]? = some x → I (k + i) s h → ∃ s1 h1 f s2 h2, g x s h = some (s1, h1) ∧ b s1 h1 = some (f, s2, h2) ∧ (((f = .nx ∨ f = .ct) ∧ I (k + i + 1) s2 h2) ∨ (f = .bk ∧ E .nx s2 h2) ∨ ∃ v, f = .rt v ∧ E (.rt v) s2 h2)) :
    ∃ f s' h', forGo g b xs s h = some (f, s', h') ∧ E f s' h' := by
  induction xs generalizing k s h with
  | nil => exact ⟨.nx, s, h, rfl, fin s h h0⟩
  | cons x xs ih =>
    obtain ⟨s1, h1, f, s2, h2, e1, e2, c⟩ := step 0 x s h rfl h0
    rcases c with ⟨hf, i2⟩ | ⟨rfl, q⟩ | ⟨v, rfl, q⟩
    · obtain ⟨f3, s', h', e3, i3⟩ := ih (k + 1) s2 h2 i2 (fun s h hi => fin s h (by rw [List.length_cons, show k + (xs.length + 1) = k + 1 + xs.length by omega]; exact hi)) (fun i y s h ey hi => by
        have := step (i + 1) y s h ey (by rw [show k + (i + 1) = k + 1 + i by omega]; exact hi)
        rw [show k + (i + 1) + 1 = k + 1 + i + 1 by omega] at this
        exact this)
      refine ⟨f3, s', h', ?_, i3⟩
      rcases hf with rfl | rfl <;> simp only [forGo, e1, e2, e3]
    · exact ⟨.nx, s2, h2, by simp only [forGo, e1, e2], q⟩
    · exact ⟨.rt v, s2, h2, by simp only [forGo, e1, e2], q⟩
theorem whileGo_mono {c : XT} {b : XS} : ∀ (n : Nat) (s : SM) (h : MH) (r : Fl × SM × MH), whileGo c b n s h = some r → whileGo c b (n + 1) s h = some r
  | 0, s, h, r, e => by simp [whileGo] at e
  | n + 1, s, h, r, e => by
    rw [whileGo] at e ⊢
    cases e1 : c s h with
    | none => simp only [e1] at e; cases e
    | some p =>
      obtain ⟨k, h1⟩ := p
      cases k with
      | false => simp only [e1] at e ⊢; exact e
      | true =>
        simp only [e1] at e ⊢
        cases e2 : b s h1 with
        | none => simp only [e2] at e; cases e
        | some q =>
          obtain ⟨f, s2, h2⟩ := q
          cases f with
          | nx => simp only [e2] at e ⊢; exact whileGo_mono n s2 h2 r e
          | ct => simp only [e2] at e ⊢; exact whileGo_mono n s2 h2 r e
          | bk => simp only [e2] at e ⊢; exact e
          | rt v => simp only [e2] at e ⊢; exact e
/-- a loop that ends by its test -/
theorem sWhile_run {c : XT} {b : XS} (I E : SM → MH → Prop) (mu : SM → MH → Nat)
    (st : ∀ s h, I s h → (∃ h1, c s h = some (false, h1) ∧ E s h1) ∨ ∃ h1 f s2 h2, c s h = some (true, h1) ∧ b s h1 = some (f, s2, h2) ∧ (f = .nx ∨ f = .ct) ∧ I s2 h2 ∧ mu s2 h2 < mu s h)
    (s : SM) (h : MH) (h0 : I s h) : ∃ s' h', sWhile c b s h = some (.nx, s', h') ∧ E s' h' := by
  have key : ∀ (k : Nat) (s : SM) (h : MH), mu s h < k → I s h → ∃ n s' h', whileGo c b n s h = some (.nx, s', h') ∧ E s' h' := fun k => by
    induction k with
    | zero => exact fun s h hk => absurd hk (Nat.not_lt_zero _)
    | succ k ih =>
      intro s h hk hi
      rcases st s h hi with ⟨h1, e1, q⟩ | ⟨h1, f, s2, h2, e1, e2, hf, i2, m2⟩
      · exact ⟨1, s, h1, by simp only [whileGo, e1], q⟩
      · obtain ⟨n, s', h', e3, q⟩ := ih s2 h2 (by omega) i2
        refine ⟨n + 1, s', h', ?_, q⟩
        rcases hf with rfl | rfl <;> simp only [whileGo, e1, e2, e3]
  obtain ⟨n, s', h', e, q⟩ := key (mu s h + 1) s h (Nat.lt_succ_self _) h0
  exact ⟨s', h', fuel_of (fun n r e => whileGo_mono n s h r e) e, q⟩
/-- .. or by a return, a break -/
theorem sWhile_ret {c : XT} {b : XS} (I : SM → MH → Prop) (E : Fl → SM → MH → Prop) (mu : SM → MH → Nat)
    (st : ∀ s h, I s h → (∃ h1, c s h = some (false, h1) ∧ E .nx s h1) ∨ ∃ h1 f s2 h2, c s h = some (true, h1) ∧ b s h1 = some (f, s2, h2) ∧ (((f = .nx ∨ f = .ct) ∧ I s2 h2 ∧ mu s2 h2 < mu s h) ∨ (f = .bk ∧ E .nx s2 h2) ∨ ∃ v, f = .rt v ∧ E (.rt v) s2 h2))
    (s : SM) (h : MH) (h0 : I s h) : ∃ f s' h', sWhile c b s h = some (f, s', h') ∧ E f s' h' := by
  have key : ∀ (k : Nat) (s : SM) (h : MH), mu s h < k → I s h → ∃ n f s' h', whileGo c b n s h = some (f, s', h') ∧ E f s' h' := fun k => by
    induction k with
    | zero => exact fun s h hk => absurd hk (Nat.not_lt_zero _)
    | succ k ih =>
      intro s h hk hi
      rcases st s h hi with ⟨h1, e1, q⟩ | ⟨h1, f, s2, h2, e1, e2, ⟨hf, i2, m2⟩ | ⟨rfl, q⟩ | ⟨v, rfl, q⟩⟩
      · exact ⟨1, .nx, s, h1, by simp only [whileGo, e1], q⟩
      · obtain ⟨n, f3, s', h', e3, q⟩ := ih s2 h2 (by omega) i2
        refine ⟨n + 1, f3, s', h', ?_, q⟩
        rcases hf with rfl | rfl <;> simp only [whileGo, e1, e2, e3]
      · exact ⟨1, .nx, s2, h2, by simp only [whileGo, e1, e2], q⟩
      · exact ⟨1, .rt v, s2, h2, by simp only [whileGo, e1, e2], q⟩
  obtain ⟨n, f, s', h', e, q⟩ := key (mu s h + 1) s h (Nat.lt_succ_self _) h0
  exact ⟨f, s', h', fuel_of (fun n r e => whileGo_mono n s h r e) e, q⟩
/-- a comprehension that keeps every turn -/
theorem lcGo_map {g : XG} {c : XT} {e : XE} {s : SM} {h : MH} (f : MV → MV) (xs acc : List MV) (hz : acc.length + xs.length ≤ szLine)
    (step : ∀ x ∈ xs, ∃ s1, g x s h = some (s1, h) ∧ c s1 h = some (true, h) ∧ e s1 h = some (f x, h)) : lcGo g c e acc xs s h = some (acc ++ xs.map f, h) := by
  induction xs generalizing acc with
  | nil => simp [lcGo]
  | cons x xs ih =>
    obtain ⟨s1, e1, e2, e3⟩ := step x List.mem_cons_self
    have hl : acc.length < szLine := by simp only [List.length_cons] at hz; omega
    simp only [lcGo, e1, e2, e3, hl, if_true]
    rw [ih (acc ++ [f x]) (by simp only [List.length_append, List.length_cons, List.length_nil] at hz ⊢; omega) (fun y hy => step y (List.mem_cons_of_mem _ hy))]
    simp
/-! ### numbers -/
theorem log2_lt {i : Int} (h0 : -1606938044258990275541962092341162602522202993782792835301376 < i) (h1 : i < 1606938044258990275541962092341162602522202993782792835301376) : i.natAbs.log2 < 200 := by
  by_cases q : i.natAbs = 0
  · rw [q]; decide
  · exact (Nat.log2_lt q).mpr (by have : (2 : Nat) ^ 200 = 1606938044258990275541962092341162602522202993782792835301376 := by decide
                                  omega)
theorem mul_ok {h : MH} {i j : Int} (a0 : -1606938044258990275541962092341162602522202993782792835301376 < i) (a1 : i < 1606938044258990275541962092341162602522202993782792835301376) (b0 : -1606938044258990275541962092341162602522202993782792835301376 < j) (b1 : j < 1606938044258990275541962092341162602522202993782792835301376) : opMul h (.int i) (.int j) = some (.int (i * j)) := by
  have := log2_lt a0 a1
  have := log2_lt b0 b1
  simp only [opMul]
  rw [if_pos (by omega)]
theorem div_ok {h : MH} {i j : Int} (b0 : 0 < j) (b1 : j < 1606938044258990275541962092341162602522202993782792835301376) : opDiv h (.int i) (.int j) = some (.int (i / j)) := by
  have := log2_lt (i := j) (by omega) b1
  simp only [opDiv]
  rw [if_pos ⟨b0, by omega⟩]
theorem mod_ok {h : MH} {i j : Int} (b0 : 0 < j) : opMod h (.int i) (.int j) = some (.int (i % j)) := by
  simp only [opMod]
  rw [if_pos b0]
/-! ### data -/
theorem isDs_ints (n : Nat) : ∀ xs : List Int, isDs n (xs.map .int) = true
  | [] => by simp [isDs]
  | x :: xs => by simp [isDs, isD, isDs_ints n xs]
theorem isD_ints (n : Nat) (xs : List Int) : isD (n + 1) (.lst (xs.map .int)) = true := by simp only [isD]; exact isDs_ints n xs
theorem eqDs_ints : ∀ xs ys : List Int, eqDs (xs.map .int) (ys.map .int) = (xs == ys)
  | [], [] => by simp [eqDs]
  | [], _ :: _ => by simp [eqDs]
  | _ :: _, [] => by simp [eqDs]
  | x :: xs, y :: ys => by simp [eqDs, eqD, eqDs_ints xs ys]
theorem get_last {h : MH} {c : MC} : (h ++ [c])[h.length]? = some c := by simp
theorem set_last {h : MH} {c d : MC} : (h ++ [c]).set h.length d = h ++ [d] := by simp
theorem set_same {h : MH} {n : Nat} {c : MC} (e : h[n]? = some c) : h.set n c = h := by
  obtain ⟨hl, e⟩ := List.getElem?_eq_some_iff.mp e
  subst e
  exact List.set_getElem_self hl
theorem rng_at {lo : Int} {n i : Nat} {x : MV} (e : (rngM lo n)[i]? = some x) : x = .int (lo + (i : Nat)) ∧ i < n := by
  unfold rngM at e
  rw [List.getElem?_map] at e
  by_cases q : i < n
  · rw [List.getElem?_range q] at e
    cases e
    exact ⟨rfl, q⟩
  · rw [List.getElem?_eq_none (by simpa using q)] at e
    cases e
theorem rng_len {lo : Int} {n : Nat} : (rngM lo n).length = n := by simp [rngM]
theorem map_at {α β : Type} {f : α → β} {xs : List α} {i : Nat} : (xs.map f)[i]? = xs[i]?.map f := List.getElem?_map
theorem ix_nat {n i : Nat} (h : i < n) : ixM n (i : Int) = some i := by
  unfold ixM
  rw [if_pos (by omega), if_pos (by omega)]
  rfl
theorem at_nat {xs : List MV} {i : Nat} {v : MV} (e : xs[i]? = some v) : atM xs (i : Int) = some v := by
  unfold atM
  rw [ix_nat (List.getElem?_eq_some_iff.mp e).1]
  exact e
theorem ix_lst {h : MH} {xs : List MV} {i : Int} {v : MV} (e : atM xs i = some v) : opIx h (.lst xs) (.int i) = some v := by
  simp only [opIx, seqOf, listOf]
  exact e
theorem st_NoneType_bool : subTy "NoneType" "bool" = false := rfl
theorem st_NoneType_int : subTy "NoneType" "int" = false := rfl
theorem st_NoneType_str : subTy "NoneType" "str" = false := rfl
theorem st_NoneType_tuple : subTy "NoneType" "tuple" = false := rfl
theorem st_NoneType_list : subTy "NoneType" "list" = false := rfl
theorem st_NoneType_dict : subTy "NoneType" "dict" = false := rfl
theorem st_bool_bool : subTy "bool" "bool" = true := rfl
theorem st_bool_int : subTy "bool" "int" = true := rfl
theorem st_bool_str : subTy "bool" "str" = false := rfl
theorem st_bool_tuple : subTy "bool" "tuple" = false := rfl
theorem st_bool_list : subTy "bool" "list" = false := rfl
theorem st_bool_dict : subTy "bool" "dict" = false := rfl
theorem st_int_bool : subTy "int" "bool" = false := rfl
theorem st_int_int : subTy "int" "int" = true := rfl
theorem st_int_str : subTy "int" "str" = false := rfl
theorem st_int_tuple : subTy "int" "tuple" = false := rfl
theorem st_int_list : subTy "int" "list" = false := rfl
theorem st_int_dict : subTy "int" "dict" = false := rfl
theorem st_str_bool : subTy "str" "bool" = false := rfl
theorem st_str_int : subTy "str" "int" = false := rfl
theorem st_str_str : subTy "str" "str" = true := rfl
theorem st_str_tuple : subTy "str" "tuple" = false := rfl
theorem st_str_list : subTy "str" "list" = false := rfl
theorem st_str_dict : subTy "str" "dict" = false := rfl
theorem st_tuple_bool : subTy "tuple" "bool" = false := rfl
theorem st_tuple_int : subTy "tuple" "int" = false := rfl
theorem st_tuple_str : subTy "tuple" "str" = false := rfl
theorem st_tuple_tuple : subTy "tuple" "tuple" = true := rfl
theorem st_tuple_list : subTy "tuple" "list" = false := rfl
theorem st_tuple_dict : subTy "tuple" "dict" = false := rfl
theorem st_list_bool : subTy "list" "bool" = false := rfl
theorem st_list_int : subTy "list" "int" = false := rfl
theorem st_list_str : subTy "list" "str" = false := rfl
theorem st_list_tuple : subTy "list" "tuple" = false := rfl
theorem st_list_list : subTy "list" "list" = true := rfl
theorem st_list_dict : subTy "list" "dict" = false := rfl
theorem st_dict_bool : subTy "dict" "bool" = false := rfl
theorem st_dict_int : subTy "dict" "int" = false := rfl
theorem st_dict_str : subTy "dict" "str" = false := rfl
theorem st_dict_tuple : subTy "dict" "tuple" = false := rfl
theorem st_dict_list : subTy "dict" "list" = false := rfl
theorem st_dict_dict : subTy "dict" "dict" = true := rfl
theorem at_0 {x : MV} {xs : List MV} : atM (x :: xs) 0 = some x := by
  have := at_nat (xs := x :: xs) (i := 0) (v := x) rfl
  exact this
theorem at_1 {x y : MV} {xs : List MV} : atM (x :: y :: xs) 1 = some y := at_nat (xs := x :: y :: xs) (i := 1) rfl
theorem at_2 {x y z : MV} {xs : List MV} : atM (x :: y :: z :: xs) 2 = some z := at_nat (xs := x :: y :: z :: xs) (i := 2) rfl
theorem at_3 {x y z u : MV} {xs : List MV} : atM (x :: y :: z :: u :: xs) 3 = some u := at_nat (xs := x :: y :: z :: u :: xs) (i := 3) rfl
theorem abs_mul {x y : Int} {X Y : Nat} (hx : x.natAbs < X) (hy : y.natAbs < Y) : (x * y).natAbs < X * Y := by
  rw [Int.natAbs_mul]
  exact Nat.mul_lt_mul'' hx hy
theorem eq_ii (h : MH) (i j : Int) : opEq h (.int i) (.int j) = some (.bl (i == j)) := rfl
theorem ne_ii (h : MH) (i j : Int) : opNe h (.int i) (.int j) = some (.bl (!(i == j))) := rfl
theorem eq_bb (h : MH) (i j : Bool) : opEq h (.bl i) (.bl j) = some (.bl (i == j)) := rfl
theorem beq_t {i j : Int} (h : i = j) : (i == j) = true := by rw [h]; exact beq_self_eq_true j
theorem beq_f {i j : Int} (h : i ≠ j) : (i == j) = false := by simpa using h
/-! ### what is told to callers -/
theorem frzs_ints {h : MH} {n x : Nat} : ∀ xs : List Int, Frzs h n x (xs.map .int) (xs.map .int)
  | [] => by simp [Frzs]
  | y :: ys => by simp only [List.map_cons, Frzs, Frz]; exact ⟨_, _, rfl, rfl, frzs_ints ys⟩
theorem cel_app {h t : MH} {x : Nat} : CelOK h (h ++ t) h x := ⟨rfl, by simp, fun i c e => .inl ⟨by rw [List.getElem?_append_left (List.getElem?_eq_some_iff.mp e).1]; exact e, e⟩⟩
theorem FrzOK.same {g : Fn} {args : List MV} {h : MH} {v : MV} (e : ∃ v2 t, g args h = some (v2, h ++ t) ∧ Frz (h ++ t) h.length (h ++ t).length v2 v) : FrzOK g args h v h := by
  obtain ⟨v2, t, e, f⟩ := e
  exact ⟨v2, _, e, cel_app, f⟩
end Ew
end

section
set_option linter.all false
set_option maxRecDepth 100000
/-! the plain part of law_k50_reckoned_with_fractions -/
namespace Ew
open PySem (Str)
noncomputable section
def W1_common : XT := (xB (xOp opGt (xVar 1) (xC (.int 0))))
def B1_common : XS := (sPar 0 1 (xVar 1) (xOp opMod (xVar 0) (xVar 1)))
def b_common : XS := (sSeq (sWhile W1_common B1_common)
    (sRet (xVar 0)))
def g_common : Fn := runDef 2 b_common

theorem common_at (a b : Int) (h : MH) (ha : 0 ≤ a) (hb : 0 ≤ b) (hb2 : b < 1606938044258990275541962092341162602522202993782792835301376) : g_common [.int a, .int b] h = some (.int (Int.gcd a b), h) := by
  have w := sWhile_run (c := W1_common) (b := B1_common)
    (fun s h1 => ∃ x y : Int, s = [some (.int x), some (.int y)] ∧ h1 = h ∧ 0 ≤ x ∧ 0 ≤ y ∧ y < 1606938044258990275541962092341162602522202993782792835301376 ∧ Int.gcd x y = Int.gcd a b)
    (fun s h1 => s = [some (.int (Int.gcd a b)), some (.int 0)] ∧ h1 = h)
    (fun s _ => match s with | [_, some (.int y)] => y.toNat | _ => 0)
    (by
      rintro s h1 ⟨x, y, rfl, rfl, hx, hy, hy2, hg⟩
      by_cases q : 0 < y
      · refine .inr ⟨h1, .nx, [some (.int y), some (.int (x % y))], h1, ?_, ?_, .inl rfl, ⟨y, x % y, rfl, rfl, hy, Int.emod_nonneg x (by omega), ?_, ?_⟩, ?_⟩
        · simp only [W1_common, sSeq, sAsg, sIf, sRet, sRetN, sExpr, sNext, sPar, sPar3, sBk, sCt, sFor, sPut, gNm, gTp, gsCons, gsNil, xVar, xC, xOp, xUn, xCons, xNil, xArgs, xCall, xTup, xLst, xBox, boxM, xIf, xAnd, xOr, xNot, xB, xAndT, xOrT, xNotT, xAppend, xPop, xPopAt, xExtend, xSlL, xPart, xNoPart, iSeq, iRange1, iRange2, cYes, seqOf, listOf, isLstC, runDef, sBegin, List.map_cons, List.map_nil, List.length_cons, List.length_nil, List.getElem?_cons_zero, List.getElem?_cons_succ, List.getElem?_nil, List.set_cons_zero, List.set_cons_succ, List.cons_append, List.nil_append, List.append_nil, Nat.sub_self, Nat.zero_add, Nat.reduceAdd, Nat.reduceSub, Nat.add_one_sub_one, List.replicate_zero, List.replicate_succ, Option.map_some, if_true, if_false, decide_true, decide_false, Bool.not_true, Bool.not_false, Bool.true_or, Bool.false_or, Bool.or_true, Bool.or_false, Bool.true_and, Bool.false_and, Bool.and_true, Bool.and_false, beq_self_eq_true, opAdd, opSub, opNeg, opLt, opLe, opGt, opGe, opIx, fLen, fAbs, fMax2, fMin2, fIsi, tyN, fList, fTuple, st_NoneType_bool, st_NoneType_int, st_NoneType_str, st_NoneType_tuple, st_NoneType_list, st_NoneType_dict, st_bool_bool, st_bool_int, st_bool_str, st_bool_tuple, st_bool_list, st_bool_dict, st_int_bool, st_int_int, st_int_str, st_int_tuple, st_int_list, st_int_dict, st_str_bool, st_str_int, st_str_str, st_str_tuple, st_str_list, st_str_dict, st_tuple_bool, st_tuple_int, st_tuple_str, st_tuple_tuple, st_tuple_list, st_tuple_dict, st_list_bool, st_list_int, st_list_str, st_list_tuple, st_list_list, st_list_dict, st_dict_bool, st_dict_int, st_dict_str, st_dict_tuple, st_dict_list, st_dict_dict, q]
        · simp (discharger := omega) only [B1_common, sSeq, sAsg, sIf, sRet, sRetN, sExpr, sNext, sPar, sPar3, sBk, sCt, sFor, sPut, gNm, gTp, gsCons, gsNil, xVar, xC, xOp, xUn, xCons, xNil, xArgs, xCall, xTup, xLst, xBox, boxM, xIf, xAnd, xOr, xNot, xB, xAndT, xOrT, xNotT, xAppend, xPop, xPopAt, xExtend, xSlL, xPart, xNoPart, iSeq, iRange1, iRange2, cYes, seqOf, listOf, isLstC, runDef, sBegin, List.map_cons, List.map_nil, List.length_cons, List.length_nil, List.getElem?_cons_zero, List.getElem?_cons_succ, List.getElem?_nil, List.set_cons_zero, List.set_cons_succ, List.cons_append, List.nil_append, List.append_nil, Nat.sub_self, Nat.zero_add, Nat.reduceAdd, Nat.reduceSub, Nat.add_one_sub_one, List.replicate_zero, List.replicate_succ, Option.map_some, if_true, if_false, decide_true, decide_false, Bool.not_true, Bool.not_false, Bool.true_or, Bool.false_or, Bool.or_true, Bool.or_false, Bool.true_and, Bool.false_and, Bool.and_true, Bool.and_false, beq_self_eq_true, opAdd, opSub, opNeg, opLt, opLe, opGt, opGe, opIx, fLen, fAbs, fMax2, fMin2, fIsi, tyN, fList, fTuple, st_NoneType_bool, st_NoneType_int, st_NoneType_str, st_NoneType_tuple, st_NoneType_list, st_NoneType_dict, st_bool_bool, st_bool_int, st_bool_str, st_bool_tuple, st_bool_list, st_bool_dict, st_int_bool, st_int_int, st_int_str, st_int_tuple, st_int_list, st_int_dict, st_str_bool, st_str_int, st_str_str, st_str_tuple, st_str_list, st_str_dict, st_tuple_bool, st_tuple_int, st_tuple_str, st_tuple_tuple, st_tuple_list, st_tuple_dict, st_list_bool, st_list_int, st_list_str, st_list_tuple, st_list_list, st_list_dict, st_dict_bool, st_dict_int, st_dict_str, st_dict_tuple, st_dict_list, st_dict_dict, mod_ok]
        · have := Int.emod_lt_of_pos x q; omega
        · rw [← hg]
          obtain ⟨m, rfl⟩ := Int.eq_ofNat_of_zero_le hx
          obtain ⟨n, rfl⟩ := Int.eq_ofNat_of_zero_le hy
          rw [← Int.natCast_emod]
          show Nat.gcd n (m % n) = Nat.gcd m n
          rw [Nat.gcd_comm m n, Nat.gcd_rec n m, Nat.gcd_comm]
        · have := Int.emod_lt_of_pos x q
          have := Int.emod_nonneg x (show y ≠ 0 by omega)
          show (x % y).toNat < y.toNat
          omega
      · have e : y = 0 := by omega
        subst e
        refine .inl ⟨h1, ?_, ?_, rfl⟩
        · simp only [W1_common, sSeq, sAsg, sIf, sRet, sRetN, sExpr, sNext, sPar, sPar3, sBk, sCt, sFor, sPut, gNm, gTp, gsCons, gsNil, xVar, xC, xOp, xUn, xCons, xNil, xArgs, xCall, xTup, xLst, xBox, boxM, xIf, xAnd, xOr, xNot, xB, xAndT, xOrT, xNotT, xAppend, xPop, xPopAt, xExtend, xSlL, xPart, xNoPart, iSeq, iRange1, iRange2, cYes, seqOf, listOf, isLstC, runDef, sBegin, List.map_cons, List.map_nil, List.length_cons, List.length_nil, List.getElem?_cons_zero, List.getElem?_cons_succ, List.getElem?_nil, List.set_cons_zero, List.set_cons_succ, List.cons_append, List.nil_append, List.append_nil, Nat.sub_self, Nat.zero_add, Nat.reduceAdd, Nat.reduceSub, Nat.add_one_sub_one, List.replicate_zero, List.replicate_succ, Option.map_some, if_true, if_false, decide_true, decide_false, Bool.not_true, Bool.not_false, Bool.true_or, Bool.false_or, Bool.or_true, Bool.or_false, Bool.true_and, Bool.false_and, Bool.and_true, Bool.and_false, beq_self_eq_true, opAdd, opSub, opNeg, opLt, opLe, opGt, opGe, opIx, fLen, fAbs, fMax2, fMin2, fIsi, tyN, fList, fTuple, st_NoneType_bool, st_NoneType_int, st_NoneType_str, st_NoneType_tuple, st_NoneType_list, st_NoneType_dict, st_bool_bool, st_bool_int, st_bool_str, st_bool_tuple, st_bool_list, st_bool_dict, st_int_bool, st_int_int, st_int_str, st_int_tuple, st_int_list, st_int_dict, st_str_bool, st_str_int, st_str_str, st_str_tuple, st_str_list, st_str_dict, st_tuple_bool, st_tuple_int, st_tuple_str, st_tuple_tuple, st_tuple_list, st_tuple_dict, st_list_bool, st_list_int, st_list_str, st_list_tuple, st_list_list, st_list_dict, st_dict_bool, st_dict_int, st_dict_str, st_dict_tuple, st_dict_list, st_dict_dict]; rfl
        · rw [← hg, Int.gcd_zero_right]
          have : ((x.natAbs : Nat) : Int) = x := by omega
          rw [this])
    [some (.int a), some (.int b)] h ⟨a, b, rfl, rfl, ha, hb, hb2, rfl⟩
  obtain ⟨s', h', e, rfl, rfl⟩ := w
  simp only [g_common, b_common, sSeq, sAsg, sIf, sRet, sRetN, sExpr, sNext, sPar, sPar3, sBk, sCt, sFor, sPut, gNm, gTp, gsCons, gsNil, xVar, xC, xOp, xUn, xCons, xNil, xArgs, xCall, xTup, xLst, xBox, boxM, xIf, xAnd, xOr, xNot, xB, xAndT, xOrT, xNotT, xAppend, xPop, xPopAt, xExtend, xSlL, xPart, xNoPart, iSeq, iRange1, iRange2, cYes, seqOf, listOf, isLstC, runDef, sBegin, List.map_cons, List.map_nil, List.length_cons, List.length_nil, List.getElem?_cons_zero, List.getElem?_cons_succ, List.getElem?_nil, List.set_cons_zero, List.set_cons_succ, List.cons_append, List.nil_append, List.append_nil, Nat.sub_self, Nat.zero_add, Nat.reduceAdd, Nat.reduceSub, Nat.add_one_sub_one, List.replicate_zero, List.replicate_succ, Option.map_some, if_true, if_false, decide_true, decide_false, Bool.not_true, Bool.not_false, Bool.true_or, Bool.false_or, Bool.or_true, Bool.or_false, Bool.true_and, Bool.false_and, Bool.and_true, Bool.and_false, beq_self_eq_true, opAdd, opSub, opNeg, opLt, opLe, opGt, opGe, opIx, fLen, fAbs, fMax2, fMin2, fIsi, tyN, fList, fTuple, st_NoneType_bool, st_NoneType_int, st_NoneType_str, st_NoneType_tuple, st_NoneType_list, st_NoneType_dict, st_bool_bool, st_bool_int, st_bool_str, st_bool_tuple, st_bool_list, st_bool_dict, st_int_bool, st_int_int, st_int_str, st_int_tuple, st_int_list, st_int_dict, st_str_bool, st_str_int, st_str_str, st_str_tuple, st_str_list, st_str_dict, st_tuple_bool, st_tuple_int, st_tuple_str, st_tuple_tuple, st_tuple_list, st_tuple_dict, st_list_bool, st_list_int, st_list_str, st_list_tuple, st_list_list, st_list_dict, st_dict_bool, st_dict_int, st_dict_str, st_dict_tuple, st_dict_list, st_dict_dict, e]

def b_fraction : XS := (sSeq (sIf (xB (xOp opLt (xVar 1) (xC (.int 0)))) (sSeq (sAsg (xOp opSub (xC (.int 0)) (xVar 0)) (gNm 0))
    (sAsg (xOp opSub (xC (.int 0)) (xVar 1)) (gNm 1))) sNext)
    (sSeq (sAsg (xCall g_common (xCons (xArgs fAbs (xCons (xVar 0) xNil)) (xCons (xVar 1) xNil))) (gNm 2))
    (sRet (xTup (xCons (xOp opDiv (xVar 0) (xVar 2)) (xCons (xOp opDiv (xVar 1) (xVar 2)) xNil))))))
def g_fraction : Fn := runDef 3 b_fraction

/-- a over b in lowest terms -/
def lowOf (a b : Int) : Int × Int := (a / (Int.gcd a b : Nat), b / (Int.gcd a b : Nat))
def fracOf (a b : Int) : Int × Int := if b < 0 then lowOf (0 - a) (0 - b) else lowOf a b
def frV (p : Int × Int) : MV := .tup [.int p.1, .int p.2]
theorem gcd_abs (a b : Int) : Int.gcd (if a < 0 then -a else a) b = Int.gcd a b := by
  split
  · exact Int.neg_gcd
  · rfl
theorem gcd_rng {a b : Int} (hb : 0 < b) : 0 < ((Int.gcd a b : Nat) : Int) ∧ ((Int.gcd a b : Nat) : Int) ≤ b := by
  have h1 : 0 < Int.gcd a b := Int.gcd_pos_of_ne_zero_right a (by omega)
  have h2 : ((Int.gcd a b : Nat) : Int) ∣ b := Int.gcd_dvd_right a b
  exact ⟨by omega, Int.le_of_dvd hb h2⟩
theorem fraction_pos (a b : Int) (h : MH) (hb : 0 < b) (hb2 : b < 1606938044258990275541962092341162602522202993782792835301376) : g_fraction [.int a, .int b] h = some (frV (lowOf a b), h) := by
  obtain ⟨g0, g1⟩ := gcd_rng (a := a) hb
  have q : ¬ b < 0 := by omega
  have e := common_at (if a < 0 then -a else a) b h (by split <;> omega) (by omega) hb2
  rw [gcd_abs] at e
  simp (discharger := omega) only [g_fraction, b_fraction, sSeq, sAsg, sIf, sRet, sRetN, sExpr, sNext, sPar, sPar3, sBk, sCt, sFor, sPut, gNm, gTp, gsCons, gsNil, xVar, xC, xOp, xUn, xCons, xNil, xArgs, xCall, xTup, xLst, xBox, boxM, xIf, xAnd, xOr, xNot, xB, xAndT, xOrT, xNotT, xAppend, xPop, xPopAt, xExtend, xSlL, xPart, xNoPart, iSeq, iRange1, iRange2, cYes, seqOf, listOf, isLstC, runDef, sBegin, List.map_cons, List.map_nil, List.length_cons, List.length_nil, List.getElem?_cons_zero, List.getElem?_cons_succ, List.getElem?_nil, List.set_cons_zero, List.set_cons_succ, List.cons_append, List.nil_append, List.append_nil, Nat.sub_self, Nat.zero_add, Nat.reduceAdd, Nat.reduceSub, Nat.add_one_sub_one, List.replicate_zero, List.replicate_succ, Option.map_some, if_true, if_false, decide_true, decide_false, Bool.not_true, Bool.not_false, Bool.true_or, Bool.false_or, Bool.or_true, Bool.or_false, Bool.true_and, Bool.false_and, Bool.and_true, Bool.and_false, beq_self_eq_true, opAdd, opSub, opNeg, opLt, opLe, opGt, opGe, opIx, fLen, fAbs, fMax2, fMin2, fIsi, tyN, fList, fTuple, st_NoneType_bool, st_NoneType_int, st_NoneType_str, st_NoneType_tuple, st_NoneType_list, st_NoneType_dict, st_bool_bool, st_bool_int, st_bool_str, st_bool_tuple, st_bool_list, st_bool_dict, st_int_bool, st_int_int, st_int_str, st_int_tuple, st_int_list, st_int_dict, st_str_bool, st_str_int, st_str_str, st_str_tuple, st_str_list, st_str_dict, st_tuple_bool, st_tuple_int, st_tuple_str, st_tuple_tuple, st_tuple_list, st_tuple_dict, st_list_bool, st_list_int, st_list_str, st_list_tuple, st_list_list, st_list_dict, st_dict_bool, st_dict_int, st_dict_str, st_dict_tuple, st_dict_list, st_dict_dict, q, e, div_ok]
  rfl
theorem fraction_at (a b : Int) (h : MH) (hb : b ≠ 0) (hb2 : b < 1606938044258990275541962092341162602522202993782792835301376) (hb3 : -1606938044258990275541962092341162602522202993782792835301376 < b) : g_fraction [.int a, .int b] h = some (frV (fracOf a b), h) := by
  by_cases q : b < 0
  · obtain ⟨g0, g1⟩ := gcd_rng (a := 0 - a) (b := 0 - b) (by omega)
    have e := common_at (if 0 - a < 0 then -(0 - a) else 0 - a) (0 - b) h (by split <;> omega) (by omega) (by omega)
    rw [gcd_abs] at e
    simp (discharger := omega) only [g_fraction, b_fraction, sSeq, sAsg, sIf, sRet, sRetN, sExpr, sNext, sPar, sPar3, sBk, sCt, sFor, sPut, gNm, gTp, gsCons, gsNil, xVar, xC, xOp, xUn, xCons, xNil, xArgs, xCall, xTup, xLst, xBox, boxM, xIf, xAnd, xOr, xNot, xB, xAndT, xOrT, xNotT, xAppend, xPop, xPopAt, xExtend, xSlL, xPart, xNoPart, iSeq, iRange1, iRange2, cYes, seqOf, listOf, isLstC, runDef, sBegin, List.map_cons, List.map_nil, List.length_cons, List.length_nil, List.getElem?_cons_zero, List.getElem?_cons_succ, List.getElem?_nil, List.set_cons_zero, List.set_cons_succ, List.cons_append, List.nil_append, List.append_nil, Nat.sub_self, Nat.zero_add, Nat.reduceAdd, Nat.reduceSub, Nat.add_one_sub_one, List.replicate_zero, List.replicate_succ, Option.map_some, if_true, if_false, decide_true, decide_false, Bool.not_true, Bool.not_false, Bool.true_or, Bool.false_or, Bool.or_true, Bool.or_false, Bool.true_and, Bool.false_and, Bool.and_true, Bool.and_false, beq_self_eq_true, opAdd, opSub, opNeg, opLt, opLe, opGt, opGe, opIx, fLen, fAbs, fMax2, fMin2, fIsi, tyN, fList, fTuple, st_NoneType_bool, st_NoneType_int, st_NoneType_str, st_NoneType_tuple, st_NoneType_list, st_NoneType_dict, st_bool_bool, st_bool_int, st_bool_str, st_bool_tuple, st_bool_list, st_bool_dict, st_int_bool, st_int_int, st_int_str, st_int_tuple, st_int_list, st_int_dict, st_str_bool, st_str_int, st_str_str, st_str_tuple, st_str_list, st_str_dict, st_tuple_bool, st_tuple_int, st_tuple_str, st_tuple_tuple, st_tuple_list, st_tuple_dict, st_list_bool, st_list_int, st_list_str, st_list_tuple, st_list_list, st_list_dict, st_dict_bool, st_dict_int, st_dict_str, st_dict_tuple, st_dict_list, st_dict_dict, q, e, div_ok]
    rw [fracOf, if_pos q]
    rfl
  · rw [fracOf, if_neg q]
    exact fraction_pos a b h (by omega) hb2
theorem eq_fr (h : MH) (p q : Int × Int) : opEq h (frV p) (frV q) = some (.bl (p.1 == q.1 && p.2 == q.2)) := by
  simp [opEq, frV, rdM, eqM, isD, isDs, eqD, eqDs]
theorem ne_fr (h : MH) (p q : Int × Int) : opNe h (frV p) (frV q) = some (.bl (!(p.1 == q.1 && p.2 == q.2))) := by
  simp [opNe, frV, rdM, eqM, isD, isDs, eqD, eqDs]

def b__law_mixed : XS := (sSeq (sAsg (xOp opMod (xOp opAdd (xOp opAdd (xOp opMul (xOp opMod (xVar 0) (xC (.int 2147483647))) (xC (.int 48271))) (xOp opMul (xOp opMul (xC (.int 7919)) (xVar 1)) (xVar 1))) (xC (.int 104729))) (xC (.int 2147483647))) (gNm 2))
    (sRet (xOp opMod (xOp opMul (xVar 2) (xVar 2)) (xC (.int 2147483629)))))
def g__law_mixed : Fn := runDef 3 b__law_mixed

def mixOf (c k : Int) : Int :=
  let n := (c % 2147483647 * 48271 + 7919 * k * k + 104729) % 2147483647
  n * n % 2147483629
theorem mixed_at (c k : Int) (h : MH) (k0 : -4611686018427387904 < k) (k1 : k < 4611686018427387904) : g__law_mixed [.int c, .int k] h = some (.int (mixOf c k), h) := by
  have e1 := Int.emod_nonneg c (show (2147483647 : Int) ≠ 0 by decide)
  have e2 := Int.emod_lt_of_pos c (show (0 : Int) < 2147483647 by decide)
  have hn : ∀ z : Int, 0 ≤ z % 2147483647 ∧ z % 2147483647 < 2147483647 := fun z => ⟨Int.emod_nonneg z (by decide), Int.emod_lt_of_pos z (by decide)⟩
  unfold g__law_mixed b__law_mixed
  simp (discharger := omega) only [mod_ok, mul_ok, sSeq, sAsg, sIf, sRet, sRetN, sExpr, sNext, sPar, sPar3, sBk, sCt, sFor, sPut, gNm, gTp, gsCons, gsNil, xVar, xC, xOp, xUn, xCons, xNil, xArgs, xCall, xTup, xLst, xBox, boxM, xIf, xAnd, xOr, xNot, xB, xAndT, xOrT, xNotT, xAppend, xPop, xPopAt, xExtend, xSlL, xPart, xNoPart, iSeq, iRange1, iRange2, cYes, seqOf, listOf, isLstC, runDef, sBegin, List.map_cons, List.map_nil, List.length_cons, List.length_nil, List.getElem?_cons_zero, List.getElem?_cons_succ, List.getElem?_nil, List.set_cons_zero, List.set_cons_succ, List.cons_append, List.nil_append, List.append_nil, Nat.sub_self, Nat.zero_add, Nat.reduceAdd, Nat.reduceSub, Nat.add_one_sub_one, List.replicate_zero, List.replicate_succ, Option.map_some, if_true, if_false, decide_true, decide_false, Bool.not_true, Bool.not_false, Bool.true_or, Bool.false_or, Bool.or_true, Bool.or_false, Bool.true_and, Bool.false_and, Bool.and_true, Bool.and_false, beq_self_eq_true, opAdd, opSub, opNeg, opLt, opLe, opGt, opGe, opIx, fLen, fAbs, fMax2, fMin2, fIsi, tyN, fList, fTuple, st_NoneType_bool, st_NoneType_int, st_NoneType_str, st_NoneType_tuple, st_NoneType_list, st_NoneType_dict, st_bool_bool, st_bool_int, st_bool_str, st_bool_tuple, st_bool_list, st_bool_dict, st_int_bool, st_int_int, st_int_str, st_int_tuple, st_int_list, st_int_dict, st_str_bool, st_str_int, st_str_str, st_str_tuple, st_str_list, st_str_dict, st_tuple_bool, st_tuple_int, st_tuple_str, st_tuple_tuple, st_tuple_list, st_tuple_dict, st_list_bool, st_list_int, st_list_str, st_list_tuple, st_list_list, st_list_dict, st_dict_bool, st_dict_int, st_dict_str, st_dict_tuple, st_dict_list, st_dict_dict]
  rfl
theorem mix_rng (c k : Int) : 0 ≤ mixOf c k ∧ mixOf c k < 2147483629 := ⟨Int.emod_nonneg _ (by decide), Int.emod_lt_of_pos _ (by decide)⟩
/-- draws -/
def Drawn (ds : List Int) : Prop := ∀ d ∈ ds, 0 ≤ d ∧ d < 2147483629
theorem Drawn.snoc {ds : List Int} {d : Int} (h : Drawn ds) (h0 : 0 ≤ d) (h1 : d < 2147483629) : Drawn (ds ++ [d]) := fun x hx => by
  rcases List.mem_append.mp hx with q | q
  · exact h x q
  · rw [List.mem_singleton.mp q]; exact ⟨h0, h1⟩
def B2__law_draws : XS := (sExpr (xAppend (xVar 1) (xCall g__law_mixed (xCons (xCall g__law_mixed (xCons (xVar 3) (xCons (xOp opAdd (xOp opMul (xC (.int 3)) (xVar 4)) (xC (.int 1))) xNil))) (xCons (xOp opAdd (xOp opAdd (xVar 4) (xVar 2)) (xC (.int 2))) xNil)))))
def W3__law_draws : XT := (xAndT (xB (xOp opGe (xVar 3) (xOp opPow (xC (.int 10)) (xC (.int 18))))) (xB (xOp opLt (xArgs fLen (xCons (xVar 1) xNil)) (xC (.int 900)))))
def B3__law_draws : XS := (sSeq (sExpr (xAppend (xVar 1) (xOp opMod (xVar 3) (xC (.int 2147483629)))))
    (sAsg (xOp opDiv (xVar 3) (xC (.int 2147483629))) (gNm 3)))
def B1__law_draws : XS := (sSeq (sAsg (xArgs fAbs (xCons (xOp opIx (xVar 0) (xVar 2)) xNil)) (gNm 3))
    (sSeq (sIf (xB (xOp opLt (xVar 3) (xOp opPow (xC (.int 10)) (xC (.int 18))))) (sFor (iRange1 (xC (.int 12))) (gNm 4) B2__law_draws) sNext)
    (sSeq (sWhile W3__law_draws B3__law_draws)
    (sIf (xB (xOp opGe (xVar 3) (xC (.int 2147483629)))) (sExpr (xAppend (xVar 1) (xOp opMod (xVar 3) (xC (.int 2147483629))))) sNext))))
def b__law_draws : XS := (sSeq (sAsg (xBox (xLst xNil)) (gNm 1))
    (sSeq (sFor (iRange1 (xArgs fMin2 (xCons (xArgs fLen (xCons (xVar 0) xNil)) (xCons (xC (.int 63)) xNil)))) (gNm 2) B1__law_draws)
    (sRet (xVar 1))))
def g__law_draws : Fn := runDef 5 b__law_draws

theorem pow18 (h : MH) : opPow h (.int 10) (.int 18) = some (.int 1000000000000000000) := rfl
/-- the twelve of a small cell -/
theorem draws_3 (ns : List Int) (h : MH) (k : Nat) (c : Int) (ds : List Int) (o4 : Option MV) (hk : k < 63) (hd : Drawn ds) (hlen : ds.length ≤ 912 + 13 * k) :
    ∃ ds2 o4', forGo (gNm 4) B2__law_draws (rngM 0 12) [some (.scr ns), some (.ref h.length), some (.int (k : Nat)), some (.int c), o4] (h ++ [.lst (ds.map .int)])
      = some (.nx, [some (.scr ns), some (.ref h.length), some (.int (k : Nat)), some (.int c), o4'], h ++ [.lst (ds2.map .int)]) ∧ Drawn ds2 ∧ ds2.length ≤ ds.length + 12 := by
  obtain ⟨s', h', e, ds2, o4', rfl, rfl, d2, l2⟩ := forGo_run (g := gNm 4) (b := B2__law_draws)
    (fun i s h1 => ∃ ds2 o4', s = [some (.scr ns), some (.ref h.length), some (.int (k : Nat)), some (.int c), o4'] ∧ h1 = h ++ [.lst (ds2.map .int)] ∧ Drawn ds2 ∧ ds2.length ≤ ds.length + i)
    (rngM 0 12) 0 _ _ ⟨ds, o4, rfl, rfl, hd, by omega⟩ (by
    rintro i x s h1 ex ⟨ds2, o4', rfl, rfl, d2, l2⟩
    obtain ⟨rfl, hi⟩ := rng_at ex
    have hz : ds2.length < szLine := by unfold szLine; omega
    refine ⟨_, _, .nx, _, _, rfl, ?_, .inl rfl, ds2 ++ [mixOf (mixOf c (3 * (0 + (i : Nat)) + 1)) (0 + (i : Nat) + (k : Nat) + 2)], some (.int (0 + (i : Nat))), rfl, rfl, d2.snoc (mix_rng _ _).1 (mix_rng _ _).2, by simp; omega⟩
    simp (discharger := omega) only [B2__law_draws, mod_ok, mul_ok, mixed_at, sSeq, sAsg, sIf, sRet, sRetN, sExpr, sNext, sPar, sPar3, sBk, sCt, sFor, sPut, gNm, gTp, gsCons, gsNil, xVar, xC, xOp, xUn, xCons, xNil, xArgs, xCall, xTup, xLst, xBox, boxM, xIf, xAnd, xOr, xNot, xB, xAndT, xOrT, xNotT, xAppend, xPop, xPopAt, xExtend, xSlL, xPart, xNoPart, iSeq, iRange1, iRange2, cYes, seqOf, listOf, isLstC, runDef, sBegin, List.map_cons, List.map_nil, List.length_cons, List.length_nil, List.getElem?_cons_zero, List.getElem?_cons_succ, List.getElem?_nil, List.set_cons_zero, List.set_cons_succ, List.cons_append, List.nil_append, List.append_nil, Nat.sub_self, Nat.zero_add, Nat.reduceAdd, Nat.reduceSub, Nat.add_one_sub_one, List.replicate_zero, List.replicate_succ, Option.map_some, if_true, if_false, decide_true, decide_false, Bool.not_true, Bool.not_false, Bool.true_or, Bool.false_or, Bool.or_true, Bool.or_false, Bool.true_and, Bool.false_and, Bool.and_true, Bool.and_false, beq_self_eq_true, opAdd, opSub, opNeg, opLt, opLe, opGt, opGe, opIx, fLen, fAbs, fMax2, fMin2, fIsi, tyN, fList, fTuple, st_NoneType_bool, st_NoneType_int, st_NoneType_str, st_NoneType_tuple, st_NoneType_list, st_NoneType_dict, st_bool_bool, st_bool_int, st_bool_str, st_bool_tuple, st_bool_list, st_bool_dict, st_int_bool, st_int_int, st_int_str, st_int_tuple, st_int_list, st_int_dict, st_str_bool, st_str_int, st_str_str, st_str_tuple, st_str_list, st_str_dict, st_tuple_bool, st_tuple_int, st_tuple_str, st_tuple_tuple, st_tuple_list, st_tuple_dict, st_list_bool, st_list_int, st_list_str, st_list_tuple, st_list_list, st_list_dict, st_dict_bool, st_dict_int, st_dict_str, st_dict_tuple, st_dict_list, st_dict_dict, get_last, set_last, List.length_map, hz, if_true, List.map_append])
  rw [rng_len] at l2
  exact ⟨ds2, o4', e, d2, by omega⟩
/-- the places of a great one -/
theorem draws_w (ns : List Int) (h : MH) (k : Nat) (c : Int) (ds : List Int) (o4 : Option MV) (hc : 0 ≤ c) (hd : Drawn ds) (hlen : ds.length ≤ 912 + 13 * k + 12) :
    ∃ (ds2 : List Int) (c2 : Int), sWhile W3__law_draws B3__law_draws [some (.scr ns), some (.ref h.length), some (.int (k : Nat)), some (.int c), o4] (h ++ [.lst (ds.map .int)])
      = some (.nx, [some (.scr ns), some (.ref h.length), some (.int (k : Nat)), some (.int c2), o4], h ++ [.lst (ds2.map .int)]) ∧ Drawn ds2 ∧ (ds2.length ≤ ds.length ∨ ds2.length ≤ 900) := by
  obtain ⟨s', h', e, ds2, c2, rfl, rfl, d2, l2⟩ := sWhile_run (c := W3__law_draws) (b := B3__law_draws)
    (fun s h1 => ∃ (ds2 : List Int) (c2 : Int), s = [some (.scr ns), some (.ref h.length), some (.int (k : Nat)), some (.int c2), o4] ∧ h1 = h ++ [.lst (ds2.map .int)] ∧ 0 ≤ c2 ∧ Drawn ds2 ∧ (ds2.length ≤ ds.length ∨ ds2.length ≤ 900))
    (fun s h1 => ∃ (ds2 : List Int) (c2 : Int), s = [some (.scr ns), some (.ref h.length), some (.int (k : Nat)), some (.int c2), o4] ∧ h1 = h ++ [.lst (ds2.map .int)] ∧ Drawn ds2 ∧ (ds2.length ≤ ds.length ∨ ds2.length ≤ 900))
    (fun _ h1 => match h1[h.length]? with | some (.lst xs) => 1000 - xs.length | _ => 0)
    (by
      rintro s h1 ⟨ds2, c2, rfl, rfl, hc2, d2, l2⟩
      by_cases q : 1000000000000000000 ≤ c2
      · by_cases q2 : ds2.length < 900
        · have hz : ds2.length < szLine := by unfold szLine; omega
          have q3 : ((ds2.length : Nat) : Int) < 900 := by omega
          refine .inr ⟨h ++ [.lst (ds2.map .int)], .nx, _, _, ?_, ?_, .inl rfl, ⟨ds2 ++ [c2 % 2147483629], c2 / 2147483629, rfl, rfl, Int.ediv_nonneg hc2 (by decide), d2.snoc (Int.emod_nonneg _ (by decide)) (Int.emod_lt_of_pos _ (by decide)), .inr (by simp; omega)⟩, ?_⟩
          · simp only [W3__law_draws, sSeq, sAsg, sIf, sRet, sRetN, sExpr, sNext, sPar, sPar3, sBk, sCt, sFor, sPut, gNm, gTp, gsCons, gsNil, xVar, xC, xOp, xUn, xCons, xNil, xArgs, xCall, xTup, xLst, xBox, boxM, xIf, xAnd, xOr, xNot, xB, xAndT, xOrT, xNotT, xAppend, xPop, xPopAt, xExtend, xSlL, xPart, xNoPart, iSeq, iRange1, iRange2, cYes, seqOf, listOf, isLstC, runDef, sBegin, List.map_cons, List.map_nil, List.length_cons, List.length_nil, List.getElem?_cons_zero, List.getElem?_cons_succ, List.getElem?_nil, List.set_cons_zero, List.set_cons_succ, List.cons_append, List.nil_append, List.append_nil, Nat.sub_self, Nat.zero_add, Nat.reduceAdd, Nat.reduceSub, Nat.add_one_sub_one, List.replicate_zero, List.replicate_succ, Option.map_some, if_true, if_false, decide_true, decide_false, Bool.not_true, Bool.not_false, Bool.true_or, Bool.false_or, Bool.or_true, Bool.or_false, Bool.true_and, Bool.false_and, Bool.and_true, Bool.and_false, beq_self_eq_true, opAdd, opSub, opNeg, opLt, opLe, opGt, opGe, opIx, fLen, fAbs, fMax2, fMin2, fIsi, tyN, fList, fTuple, st_NoneType_bool, st_NoneType_int, st_NoneType_str, st_NoneType_tuple, st_NoneType_list, st_NoneType_dict, st_bool_bool, st_bool_int, st_bool_str, st_bool_tuple, st_bool_list, st_bool_dict, st_int_bool, st_int_int, st_int_str, st_int_tuple, st_int_list, st_int_dict, st_str_bool, st_str_int, st_str_str, st_str_tuple, st_str_list, st_str_dict, st_tuple_bool, st_tuple_int, st_tuple_str, st_tuple_tuple, st_tuple_list, st_tuple_dict, st_list_bool, st_list_int, st_list_str, st_list_tuple, st_list_list, st_list_dict, st_dict_bool, st_dict_int, st_dict_str, st_dict_tuple, st_dict_list, st_dict_dict, get_last, pow18, List.length_map, q, q3]
          · simp (discharger := omega) only [B3__law_draws, sSeq, sAsg, sIf, sRet, sRetN, sExpr, sNext, sPar, sPar3, sBk, sCt, sFor, sPut, gNm, gTp, gsCons, gsNil, xVar, xC, xOp, xUn, xCons, xNil, xArgs, xCall, xTup, xLst, xBox, boxM, xIf, xAnd, xOr, xNot, xB, xAndT, xOrT, xNotT, xAppend, xPop, xPopAt, xExtend, xSlL, xPart, xNoPart, iSeq, iRange1, iRange2, cYes, seqOf, listOf, isLstC, runDef, sBegin, List.map_cons, List.map_nil, List.length_cons, List.length_nil, List.getElem?_cons_zero, List.getElem?_cons_succ, List.getElem?_nil, List.set_cons_zero, List.set_cons_succ, List.cons_append, List.nil_append, List.append_nil, Nat.sub_self, Nat.zero_add, Nat.reduceAdd, Nat.reduceSub, Nat.add_one_sub_one, List.replicate_zero, List.replicate_succ, Option.map_some, if_true, if_false, decide_true, decide_false, Bool.not_true, Bool.not_false, Bool.true_or, Bool.false_or, Bool.or_true, Bool.or_false, Bool.true_and, Bool.false_and, Bool.and_true, Bool.and_false, beq_self_eq_true, opAdd, opSub, opNeg, opLt, opLe, opGt, opGe, opIx, fLen, fAbs, fMax2, fMin2, fIsi, tyN, fList, fTuple, st_NoneType_bool, st_NoneType_int, st_NoneType_str, st_NoneType_tuple, st_NoneType_list, st_NoneType_dict, st_bool_bool, st_bool_int, st_bool_str, st_bool_tuple, st_bool_list, st_bool_dict, st_int_bool, st_int_int, st_int_str, st_int_tuple, st_int_list, st_int_dict, st_str_bool, st_str_int, st_str_str, st_str_tuple, st_str_list, st_str_dict, st_tuple_bool, st_tuple_int, st_tuple_str, st_tuple_tuple, st_tuple_list, st_tuple_dict, st_list_bool, st_list_int, st_list_str, st_list_tuple, st_list_list, st_list_dict, st_dict_bool, st_dict_int, st_dict_str, st_dict_tuple, st_dict_list, st_dict_dict, get_last, set_last, mod_ok, div_ok, List.length_map, hz, if_true, List.map_append]
          · simp only [get_last, List.length_map, List.length_append, List.length_singleton]; omega
        · refine .inl ⟨h ++ [.lst (ds2.map .int)], ?_, ds2, c2, rfl, rfl, d2, l2⟩
          have q3 : ¬ ((ds2.length : Nat) : Int) < 900 := by omega
          simp only [W3__law_draws, sSeq, sAsg, sIf, sRet, sRetN, sExpr, sNext, sPar, sPar3, sBk, sCt, sFor, sPut, gNm, gTp, gsCons, gsNil, xVar, xC, xOp, xUn, xCons, xNil, xArgs, xCall, xTup, xLst, xBox, boxM, xIf, xAnd, xOr, xNot, xB, xAndT, xOrT, xNotT, xAppend, xPop, xPopAt, xExtend, xSlL, xPart, xNoPart, iSeq, iRange1, iRange2, cYes, seqOf, listOf, isLstC, runDef, sBegin, List.map_cons, List.map_nil, List.length_cons, List.length_nil, List.getElem?_cons_zero, List.getElem?_cons_succ, List.getElem?_nil, List.set_cons_zero, List.set_cons_succ, List.cons_append, List.nil_append, List.append_nil, Nat.sub_self, Nat.zero_add, Nat.reduceAdd, Nat.reduceSub, Nat.add_one_sub_one, List.replicate_zero, List.replicate_succ, Option.map_some, if_true, if_false, decide_true, decide_false, Bool.not_true, Bool.not_false, Bool.true_or, Bool.false_or, Bool.or_true, Bool.or_false, Bool.true_and, Bool.false_and, Bool.and_true, Bool.and_false, beq_self_eq_true, opAdd, opSub, opNeg, opLt, opLe, opGt, opGe, opIx, fLen, fAbs, fMax2, fMin2, fIsi, tyN, fList, fTuple, st_NoneType_bool, st_NoneType_int, st_NoneType_str, st_NoneType_tuple, st_NoneType_list, st_NoneType_dict, st_bool_bool, st_bool_int, st_bool_str, st_bool_tuple, st_bool_list, st_bool_dict, st_int_bool, st_int_int, st_int_str, st_int_tuple, st_int_list, st_int_dict, st_str_bool, st_str_int, st_str_str, st_str_tuple, st_str_list, st_str_dict, st_tuple_bool, st_tuple_int, st_tuple_str, st_tuple_tuple, st_tuple_list, st_tuple_dict, st_list_bool, st_list_int, st_list_str, st_list_tuple, st_list_list, st_list_dict, st_dict_bool, st_dict_int, st_dict_str, st_dict_tuple, st_dict_list, st_dict_dict, get_last, pow18, List.length_map, q, q3]
      · refine .inl ⟨h ++ [.lst (ds2.map .int)], ?_, ds2, c2, rfl, rfl, d2, l2⟩
        simp only [W3__law_draws, sSeq, sAsg, sIf, sRet, sRetN, sExpr, sNext, sPar, sPar3, sBk, sCt, sFor, sPut, gNm, gTp, gsCons, gsNil, xVar, xC, xOp, xUn, xCons, xNil, xArgs, xCall, xTup, xLst, xBox, boxM, xIf, xAnd, xOr, xNot, xB, xAndT, xOrT, xNotT, xAppend, xPop, xPopAt, xExtend, xSlL, xPart, xNoPart, iSeq, iRange1, iRange2, cYes, seqOf, listOf, isLstC, runDef, sBegin, List.map_cons, List.map_nil, List.length_cons, List.length_nil, List.getElem?_cons_zero, List.getElem?_cons_succ, List.getElem?_nil, List.set_cons_zero, List.set_cons_succ, List.cons_append, List.nil_append, List.append_nil, Nat.sub_self, Nat.zero_add, Nat.reduceAdd, Nat.reduceSub, Nat.add_one_sub_one, List.replicate_zero, List.replicate_succ, Option.map_some, if_true, if_false, decide_true, decide_false, Bool.not_true, Bool.not_false, Bool.true_or, Bool.false_or, Bool.or_true, Bool.or_false, Bool.true_and, Bool.false_and, Bool.and_true, Bool.and_false, beq_self_eq_true, opAdd, opSub, opNeg, opLt, opLe, opGt, opGe, opIx, fLen, fAbs, fMax2, fMin2, fIsi, tyN, fList, fTuple, st_NoneType_bool, st_NoneType_int, st_NoneType_str, st_NoneType_tuple, st_NoneType_list, st_NoneType_dict, st_bool_bool, st_bool_int, st_bool_str, st_bool_tuple, st_bool_list, st_bool_dict, st_int_bool, st_int_int, st_int_str, st_int_tuple, st_int_list, st_int_dict, st_str_bool, st_str_int, st_str_str, st_str_tuple, st_str_list, st_str_dict, st_tuple_bool, st_tuple_int, st_tuple_str, st_tuple_tuple, st_tuple_list, st_tuple_dict, st_list_bool, st_list_int, st_list_str, st_list_tuple, st_list_list, st_list_dict, st_dict_bool, st_dict_int, st_dict_str, st_dict_tuple, st_dict_list, st_dict_dict, get_last, pow18, q])
    [some (.scr ns), some (.ref h.length), some (.int (k : Nat)), some (.int c), o4] (h ++ [.lst (ds.map .int)]) ⟨ds, c, rfl, rfl, hc, hd, .inl (Nat.le_refl _)⟩
  exact ⟨ds2, c2, e, d2, l2⟩
theorem draws_at (ns : List Int) (hl : ns.length ≤ 63) (h : MH) : ∃ ds : List Int, g__law_draws [.scr ns] h = some (.ref h.length, h ++ [.lst (ds.map .int)]) ∧ Drawn ds ∧ ds.length ≤ 2000 := by
  obtain ⟨s', h', e, ds, o2, o3, o4, rfl, rfl, d2, l2⟩ := forGo_run (g := gNm 2) (b := B1__law_draws)
    (fun i s h1 => ∃ ds o2 o3 o4, s = [some (.scr ns), some (.ref h.length), o2, o3, o4] ∧ h1 = h ++ [.lst (ds.map .int)] ∧ Drawn ds ∧ ds.length ≤ 912 + 13 * i)
    (rngM 0 (min ns.length 63)) 0 [some (.scr ns), some (.ref h.length), none, none, none] (h ++ [.lst []]) ⟨[], none, none, none, rfl, rfl, (show Drawn [] from fun _ hm => by cases hm), by simp⟩ (by
    rintro i x s h1 ex ⟨ds, o2, o3, o4, rfl, rfl, d2, l2⟩
    rw [Nat.zero_add] at l2 ⊢
    obtain ⟨rfl, hi⟩ := rng_at ex
    rw [Int.zero_add]
    have hi2 : i < ns.length := by omega
    have ea : atM (ns.map MV.int) (i : Nat) = some (.int ns[i]) := at_nat (by rw [map_at, List.getElem?_eq_getElem hi2]; rfl)
    obtain ⟨c, hc, hc0⟩ : ∃ c : Int, (if ns[i] < 0 then -ns[i] else ns[i]) = c ∧ 0 ≤ c := ⟨_, rfl, by split <;> omega⟩
    -- small cells
    have st1 : ∃ (ds2 : List Int) (o4' : Option MV), (if c < 1000000000000000000 then forGo (gNm 4) B2__law_draws (rngM 0 12) [some (.scr ns), some (.ref h.length), some (.int (i : Nat)), some (.int c), o4] (h ++ [.lst (ds.map .int)]) else some (.nx, [some (.scr ns), some (.ref h.length), some (.int (i : Nat)), some (.int c), o4], h ++ [.lst (ds.map .int)]))
        = some (.nx, [some (.scr ns), some (.ref h.length), some (.int (i : Nat)), some (.int c), o4'], h ++ [.lst (ds2.map .int)]) ∧ Drawn ds2 ∧ ds2.length ≤ 912 + 13 * i + 12 := by
      by_cases q : c < 1000000000000000000
      · obtain ⟨ds2, o4', e1, e2, e3⟩ := draws_3 ns h i c ds o4 (by omega) d2 l2
        exact ⟨ds2, o4', by rw [if_pos q]; exact e1, e2, by omega⟩
      · exact ⟨ds, o4, by rw [if_neg q], d2, by omega⟩
    obtain ⟨ds2, o4', e2, d3, l3⟩ := st1
    obtain ⟨ds3, c3, e3, d4, l4⟩ := draws_w ns h i c ds2 o4' hc0 d3 l3
    have hz : ds3.length < szLine := by unfold szLine; omega
    have pre : B1__law_draws [some (.scr ns), some (.ref h.length), some (.int (i : Nat)), o3, o4] (h ++ [.lst (ds.map .int)]) = (if 2147483629 ≤ c3 then some (.nx, [some (.scr ns), some (.ref h.length), some (.int (i : Nat)), some (.int c3), o4'], h ++ [.lst ((ds3 ++ [c3 % 2147483629]).map .int)]) else some (.nx, [some (.scr ns), some (.ref h.length), some (.int (i : Nat)), some (.int c3), o4'], h ++ [.lst (ds3.map .int)])) := by
      have t12 : (-(2 : Int) ^ 62 ≤ 12 ∧ (12 : Int) < 2 ^ 62) := by decide
      have n12 : (12 : Int).toNat = 12 := rfl
      simp only [B1__law_draws, sSeq, sAsg, sIf, sRet, sRetN, sExpr, sNext, sPar, sPar3, sBk, sCt, sFor, sPut, gNm, gTp, gsCons, gsNil, xVar, xC, xOp, xUn, xCons, xNil, xArgs, xCall, xTup, xLst, xBox, boxM, xIf, xAnd, xOr, xNot, xB, xAndT, xOrT, xNotT, xAppend, xPop, xPopAt, xExtend, xSlL, xPart, xNoPart, iSeq, iRange1, iRange2, cYes, seqOf, listOf, isLstC, runDef, sBegin, List.map_cons, List.map_nil, List.length_cons, List.length_nil, List.getElem?_cons_zero, List.getElem?_cons_succ, List.getElem?_nil, List.set_cons_zero, List.set_cons_succ, List.cons_append, List.nil_append, List.append_nil, Nat.sub_self, Nat.zero_add, Nat.reduceAdd, Nat.reduceSub, Nat.add_one_sub_one, List.replicate_zero, List.replicate_succ, Option.map_some, if_true, if_false, decide_true, decide_false, Bool.not_true, Bool.not_false, Bool.true_or, Bool.false_or, Bool.or_true, Bool.or_false, Bool.true_and, Bool.false_and, Bool.and_true, Bool.and_false, beq_self_eq_true, opAdd, opSub, opNeg, opLt, opLe, opGt, opGe, opIx, fLen, fAbs, fMax2, fMin2, fIsi, tyN, fList, fTuple, st_NoneType_bool, st_NoneType_int, st_NoneType_str, st_NoneType_tuple, st_NoneType_list, st_NoneType_dict, st_bool_bool, st_bool_int, st_bool_str, st_bool_tuple, st_bool_list, st_bool_dict, st_int_bool, st_int_int, st_int_str, st_int_tuple, st_int_list, st_int_dict, st_str_bool, st_str_int, st_str_str, st_str_tuple, st_str_list, st_str_dict, st_tuple_bool, st_tuple_int, st_tuple_str, st_tuple_tuple, st_tuple_list, st_tuple_dict, st_list_bool, st_list_int, st_list_str, st_list_tuple, st_list_list, st_list_dict, st_dict_bool, st_dict_int, st_dict_str, st_dict_tuple, st_dict_list, st_dict_dict, ea, hc, pow18, t12, and_self, if_true, n12]
      by_cases q : c < 1000000000000000000
      · rw [if_pos q] at e2
        simp only [q, decide_true, e2, e3, sSeq, sAsg, sIf, sRet, sRetN, sExpr, sNext, sPar, sPar3, sBk, sCt, sFor, sPut, gNm, gTp, gsCons, gsNil, xVar, xC, xOp, xUn, xCons, xNil, xArgs, xCall, xTup, xLst, xBox, boxM, xIf, xAnd, xOr, xNot, xB, xAndT, xOrT, xNotT, xAppend, xPop, xPopAt, xExtend, xSlL, xPart, xNoPart, iSeq, iRange1, iRange2, cYes, seqOf, listOf, isLstC, runDef, sBegin, List.map_cons, List.map_nil, List.length_cons, List.length_nil, List.getElem?_cons_zero, List.getElem?_cons_succ, List.getElem?_nil, List.set_cons_zero, List.set_cons_succ, List.cons_append, List.nil_append, List.append_nil, Nat.sub_self, Nat.zero_add, Nat.reduceAdd, Nat.reduceSub, Nat.add_one_sub_one, List.replicate_zero, List.replicate_succ, Option.map_some, if_true, if_false, decide_true, decide_false, Bool.not_true, Bool.not_false, Bool.true_or, Bool.false_or, Bool.or_true, Bool.or_false, Bool.true_and, Bool.false_and, Bool.and_true, Bool.and_false, beq_self_eq_true, opAdd, opSub, opNeg, opLt, opLe, opGt, opGe, opIx, fLen, fAbs, fMax2, fMin2, fIsi, tyN, fList, fTuple, st_NoneType_bool, st_NoneType_int, st_NoneType_str, st_NoneType_tuple, st_NoneType_list, st_NoneType_dict, st_bool_bool, st_bool_int, st_bool_str, st_bool_tuple, st_bool_list, st_bool_dict, st_int_bool, st_int_int, st_int_str, st_int_tuple, st_int_list, st_int_dict, st_str_bool, st_str_int, st_str_str, st_str_tuple, st_str_list, st_str_dict, st_tuple_bool, st_tuple_int, st_tuple_str, st_tuple_tuple, st_tuple_list, st_tuple_dict, st_list_bool, st_list_int, st_list_str, st_list_tuple, st_list_list, st_list_dict, st_dict_bool, st_dict_int, st_dict_str, st_dict_tuple, st_dict_list, st_dict_dict]
        by_cases q2 : 2147483629 ≤ c3
        · simp (discharger := omega) only [q2, sSeq, sAsg, sIf, sRet, sRetN, sExpr, sNext, sPar, sPar3, sBk, sCt, sFor, sPut, gNm, gTp, gsCons, gsNil, xVar, xC, xOp, xUn, xCons, xNil, xArgs, xCall, xTup, xLst, xBox, boxM, xIf, xAnd, xOr, xNot, xB, xAndT, xOrT, xNotT, xAppend, xPop, xPopAt, xExtend, xSlL, xPart, xNoPart, iSeq, iRange1, iRange2, cYes, seqOf, listOf, isLstC, runDef, sBegin, List.map_cons, List.map_nil, List.length_cons, List.length_nil, List.getElem?_cons_zero, List.getElem?_cons_succ, List.getElem?_nil, List.set_cons_zero, List.set_cons_succ, List.cons_append, List.nil_append, List.append_nil, Nat.sub_self, Nat.zero_add, Nat.reduceAdd, Nat.reduceSub, Nat.add_one_sub_one, List.replicate_zero, List.replicate_succ, Option.map_some, if_true, if_false, decide_true, decide_false, Bool.not_true, Bool.not_false, Bool.true_or, Bool.false_or, Bool.or_true, Bool.or_false, Bool.true_and, Bool.false_and, Bool.and_true, Bool.and_false, beq_self_eq_true, opAdd, opSub, opNeg, opLt, opLe, opGt, opGe, opIx, fLen, fAbs, fMax2, fMin2, fIsi, tyN, fList, fTuple, st_NoneType_bool, st_NoneType_int, st_NoneType_str, st_NoneType_tuple, st_NoneType_list, st_NoneType_dict, st_bool_bool, st_bool_int, st_bool_str, st_bool_tuple, st_bool_list, st_bool_dict, st_int_bool, st_int_int, st_int_str, st_int_tuple, st_int_list, st_int_dict, st_str_bool, st_str_int, st_str_str, st_str_tuple, st_str_list, st_str_dict, st_tuple_bool, st_tuple_int, st_tuple_str, st_tuple_tuple, st_tuple_list, st_tuple_dict, st_list_bool, st_list_int, st_list_str, st_list_tuple, st_list_list, st_list_dict, st_dict_bool, st_dict_int, st_dict_str, st_dict_tuple, st_dict_list, st_dict_dict, get_last, set_last, mod_ok, List.length_map, hz, if_true, List.map_append]
        · simp only [q2, sSeq, sAsg, sIf, sRet, sRetN, sExpr, sNext, sPar, sPar3, sBk, sCt, sFor, sPut, gNm, gTp, gsCons, gsNil, xVar, xC, xOp, xUn, xCons, xNil, xArgs, xCall, xTup, xLst, xBox, boxM, xIf, xAnd, xOr, xNot, xB, xAndT, xOrT, xNotT, xAppend, xPop, xPopAt, xExtend, xSlL, xPart, xNoPart, iSeq, iRange1, iRange2, cYes, seqOf, listOf, isLstC, runDef, sBegin, List.map_cons, List.map_nil, List.length_cons, List.length_nil, List.getElem?_cons_zero, List.getElem?_cons_succ, List.getElem?_nil, List.set_cons_zero, List.set_cons_succ, List.cons_append, List.nil_append, List.append_nil, Nat.sub_self, Nat.zero_add, Nat.reduceAdd, Nat.reduceSub, Nat.add_one_sub_one, List.replicate_zero, List.replicate_succ, Option.map_some, if_true, if_false, decide_true, decide_false, Bool.not_true, Bool.not_false, Bool.true_or, Bool.false_or, Bool.or_true, Bool.or_false, Bool.true_and, Bool.false_and, Bool.and_true, Bool.and_false, beq_self_eq_true, opAdd, opSub, opNeg, opLt, opLe, opGt, opGe, opIx, fLen, fAbs, fMax2, fMin2, fIsi, tyN, fList, fTuple, st_NoneType_bool, st_NoneType_int, st_NoneType_str, st_NoneType_tuple, st_NoneType_list, st_NoneType_dict, st_bool_bool, st_bool_int, st_bool_str, st_bool_tuple, st_bool_list, st_bool_dict, st_int_bool, st_int_int, st_int_str, st_int_tuple, st_int_list, st_int_dict, st_str_bool, st_str_int, st_str_str, st_str_tuple, st_str_list, st_str_dict, st_tuple_bool, st_tuple_int, st_tuple_str, st_tuple_tuple, st_tuple_list, st_tuple_dict, st_list_bool, st_list_int, st_list_str, st_list_tuple, st_list_list, st_list_dict, st_dict_bool, st_dict_int, st_dict_str, st_dict_tuple, st_dict_list, st_dict_dict, if_false]
      · rw [if_neg q] at e2
        simp only [Option.some.injEq, Prod.mk.injEq, List.cons.injEq, true_and, and_true] at e2
        obtain ⟨rfl, e2⟩ := e2
        rw [← e2] at e3
        simp only [q, decide_false, e3, sSeq, sAsg, sIf, sRet, sRetN, sExpr, sNext, sPar, sPar3, sBk, sCt, sFor, sPut, gNm, gTp, gsCons, gsNil, xVar, xC, xOp, xUn, xCons, xNil, xArgs, xCall, xTup, xLst, xBox, boxM, xIf, xAnd, xOr, xNot, xB, xAndT, xOrT, xNotT, xAppend, xPop, xPopAt, xExtend, xSlL, xPart, xNoPart, iSeq, iRange1, iRange2, cYes, seqOf, listOf, isLstC, runDef, sBegin, List.map_cons, List.map_nil, List.length_cons, List.length_nil, List.getElem?_cons_zero, List.getElem?_cons_succ, List.getElem?_nil, List.set_cons_zero, List.set_cons_succ, List.cons_append, List.nil_append, List.append_nil, Nat.sub_self, Nat.zero_add, Nat.reduceAdd, Nat.reduceSub, Nat.add_one_sub_one, List.replicate_zero, List.replicate_succ, Option.map_some, if_true, if_false, decide_true, decide_false, Bool.not_true, Bool.not_false, Bool.true_or, Bool.false_or, Bool.or_true, Bool.or_false, Bool.true_and, Bool.false_and, Bool.and_true, Bool.and_false, beq_self_eq_true, opAdd, opSub, opNeg, opLt, opLe, opGt, opGe, opIx, fLen, fAbs, fMax2, fMin2, fIsi, tyN, fList, fTuple, st_NoneType_bool, st_NoneType_int, st_NoneType_str, st_NoneType_tuple, st_NoneType_list, st_NoneType_dict, st_bool_bool, st_bool_int, st_bool_str, st_bool_tuple, st_bool_list, st_bool_dict, st_int_bool, st_int_int, st_int_str, st_int_tuple, st_int_list, st_int_dict, st_str_bool, st_str_int, st_str_str, st_str_tuple, st_str_list, st_str_dict, st_tuple_bool, st_tuple_int, st_tuple_str, st_tuple_tuple, st_tuple_list, st_tuple_dict, st_list_bool, st_list_int, st_list_str, st_list_tuple, st_list_list, st_list_dict, st_dict_bool, st_dict_int, st_dict_str, st_dict_tuple, st_dict_list, st_dict_dict]
        by_cases q2 : 2147483629 ≤ c3
        · simp (discharger := omega) only [q2, sSeq, sAsg, sIf, sRet, sRetN, sExpr, sNext, sPar, sPar3, sBk, sCt, sFor, sPut, gNm, gTp, gsCons, gsNil, xVar, xC, xOp, xUn, xCons, xNil, xArgs, xCall, xTup, xLst, xBox, boxM, xIf, xAnd, xOr, xNot, xB, xAndT, xOrT, xNotT, xAppend, xPop, xPopAt, xExtend, xSlL, xPart, xNoPart, iSeq, iRange1, iRange2, cYes, seqOf, listOf, isLstC, runDef, sBegin, List.map_cons, List.map_nil, List.length_cons, List.length_nil, List.getElem?_cons_zero, List.getElem?_cons_succ, List.getElem?_nil, List.set_cons_zero, List.set_cons_succ, List.cons_append, List.nil_append, List.append_nil, Nat.sub_self, Nat.zero_add, Nat.reduceAdd, Nat.reduceSub, Nat.add_one_sub_one, List.replicate_zero, List.replicate_succ, Option.map_some, if_true, if_false, decide_true, decide_false, Bool.not_true, Bool.not_false, Bool.true_or, Bool.false_or, Bool.or_true, Bool.or_false, Bool.true_and, Bool.false_and, Bool.and_true, Bool.and_false, beq_self_eq_true, opAdd, opSub, opNeg, opLt, opLe, opGt, opGe, opIx, fLen, fAbs, fMax2, fMin2, fIsi, tyN, fList, fTuple, st_NoneType_bool, st_NoneType_int, st_NoneType_str, st_NoneType_tuple, st_NoneType_list, st_NoneType_dict, st_bool_bool, st_bool_int, st_bool_str, st_bool_tuple, st_bool_list, st_bool_dict, st_int_bool, st_int_int, st_int_str, st_int_tuple, st_int_list, st_int_dict, st_str_bool, st_str_int, st_str_str, st_str_tuple, st_str_list, st_str_dict, st_tuple_bool, st_tuple_int, st_tuple_str, st_tuple_tuple, st_tuple_list, st_tuple_dict, st_list_bool, st_list_int, st_list_str, st_list_tuple, st_list_list, st_list_dict, st_dict_bool, st_dict_int, st_dict_str, st_dict_tuple, st_dict_list, st_dict_dict, get_last, set_last, mod_ok, List.length_map, hz, if_true, List.map_append]
        · simp only [q2, sSeq, sAsg, sIf, sRet, sRetN, sExpr, sNext, sPar, sPar3, sBk, sCt, sFor, sPut, gNm, gTp, gsCons, gsNil, xVar, xC, xOp, xUn, xCons, xNil, xArgs, xCall, xTup, xLst, xBox, boxM, xIf, xAnd, xOr, xNot, xB, xAndT, xOrT, xNotT, xAppend, xPop, xPopAt, xExtend, xSlL, xPart, xNoPart, iSeq, iRange1, iRange2, cYes, seqOf, listOf, isLstC, runDef, sBegin, List.map_cons, List.map_nil, List.length_cons, List.length_nil, List.getElem?_cons_zero, List.getElem?_cons_succ, List.getElem?_nil, List.set_cons_zero, List.set_cons_succ, List.cons_append, List.nil_append, List.append_nil, Nat.sub_self, Nat.zero_add, Nat.reduceAdd, Nat.reduceSub, Nat.add_one_sub_one, List.replicate_zero, List.replicate_succ, Option.map_some, if_true, if_false, decide_true, decide_false, Bool.not_true, Bool.not_false, Bool.true_or, Bool.false_or, Bool.or_true, Bool.or_false, Bool.true_and, Bool.false_and, Bool.and_true, Bool.and_false, beq_self_eq_true, opAdd, opSub, opNeg, opLt, opLe, opGt, opGe, opIx, fLen, fAbs, fMax2, fMin2, fIsi, tyN, fList, fTuple, st_NoneType_bool, st_NoneType_int, st_NoneType_str, st_NoneType_tuple, st_NoneType_list, st_NoneType_dict, st_bool_bool, st_bool_int, st_bool_str, st_bool_tuple, st_bool_list, st_bool_dict, st_int_bool, st_int_int, st_int_str, st_int_tuple, st_int_list, st_int_dict, st_str_bool, st_str_int, st_str_str, st_str_tuple, st_str_list, st_str_dict, st_tuple_bool, st_tuple_int, st_tuple_str, st_tuple_tuple, st_tuple_list, st_tuple_dict, st_list_bool, st_list_int, st_list_str, st_list_tuple, st_list_list, st_list_dict, st_dict_bool, st_dict_int, st_dict_str, st_dict_tuple, st_dict_list, st_dict_dict, if_false]
    by_cases q : 2147483629 ≤ c3
    · rw [if_pos q] at pre
      exact ⟨_, _, .nx, _, _, rfl, pre, .inl rfl, ds3 ++ [c3 % 2147483629], _, _, _, rfl, rfl, d4.snoc (Int.emod_nonneg _ (by decide)) (Int.emod_lt_of_pos _ (by decide)), by simp; omega⟩
    · rw [if_neg q] at pre
      exact ⟨_, _, .nx, _, _, rfl, pre, .inl rfl, ds3, _, _, _, rfl, rfl, d4, by omega⟩)
  rw [rng_len] at l2
  refine ⟨ds, ?_, d2, by omega⟩
  have em : (if (63 : Int) < ((ns.length : Nat) : Int) then (63 : Int) else ((ns.length : Nat) : Int)) = ((min ns.length 63 : Nat) : Int) := by split <;> omega
  have em2 : (((min ns.length 63 : Nat) : Int)).toNat = min ns.length 63 := by omega
  have b0 : -(2 : Int) ^ 62 ≤ ((min ns.length 63 : Nat) : Int) ∧ ((min ns.length 63 : Nat) : Int) < 2 ^ 62 := by omega
  simp only [g__law_draws, b__law_draws, sSeq, sAsg, sIf, sRet, sRetN, sExpr, sNext, sPar, sPar3, sBk, sCt, sFor, sPut, gNm, gTp, gsCons, gsNil, xVar, xC, xOp, xUn, xCons, xNil, xArgs, xCall, xTup, xLst, xBox, boxM, xIf, xAnd, xOr, xNot, xB, xAndT, xOrT, xNotT, xAppend, xPop, xPopAt, xExtend, xSlL, xPart, xNoPart, iSeq, iRange1, iRange2, cYes, seqOf, listOf, isLstC, runDef, sBegin, List.map_cons, List.map_nil, List.length_cons, List.length_nil, List.getElem?_cons_zero, List.getElem?_cons_succ, List.getElem?_nil, List.set_cons_zero, List.set_cons_succ, List.cons_append, List.nil_append, List.append_nil, Nat.sub_self, Nat.zero_add, Nat.reduceAdd, Nat.reduceSub, Nat.add_one_sub_one, List.replicate_zero, List.replicate_succ, Option.map_some, if_true, if_false, decide_true, decide_false, Bool.not_true, Bool.not_false, Bool.true_or, Bool.false_or, Bool.or_true, Bool.or_false, Bool.true_and, Bool.false_and, Bool.and_true, Bool.and_false, beq_self_eq_true, opAdd, opSub, opNeg, opLt, opLe, opGt, opGe, opIx, fLen, fAbs, fMax2, fMin2, fIsi, tyN, fList, fTuple, st_NoneType_bool, st_NoneType_int, st_NoneType_str, st_NoneType_tuple, st_NoneType_list, st_NoneType_dict, st_bool_bool, st_bool_int, st_bool_str, st_bool_tuple, st_bool_list, st_bool_dict, st_int_bool, st_int_int, st_int_str, st_int_tuple, st_int_list, st_int_dict, st_str_bool, st_str_int, st_str_str, st_str_tuple, st_str_list, st_str_dict, st_tuple_bool, st_tuple_int, st_tuple_str, st_tuple_tuple, st_tuple_list, st_tuple_dict, st_list_bool, st_list_int, st_list_str, st_list_tuple, st_list_list, st_list_dict, st_dict_bool, st_dict_int, st_dict_str, st_dict_tuple, st_dict_list, st_dict_dict, List.length_map, gt_iff_lt, em, b0, and_self, if_true, em2, e]

def b__law_next : XS := (sSeq (sIf (xB (xOp opEq (xVar 0) (xLst xNil))) (sRet (xC (.int 0))) sNext)
    (sRet (xPopAt (xVar 0) (xC (.int 0)))))
def g__law_next : Fn := runDef 1 b__law_next

theorem next_at (ds : List Int) (d : Nat) (h : MH) (e : h[d]? = some (.lst (ds.map .int))) : g__law_next [.ref d] h = some (.int (ds.headD 0), h.set d (.lst (ds.tail.map .int))) := by
  have hl : d < h.length := (List.getElem?_eq_some_iff.mp e).1
  cases ds with
  | nil =>
    have eq1 : opEq h (.ref d) (.lst []) = some (.bl true) := by
      unfold opEq
      simp only [rdM, e]
      rfl
    have ss : h.set d (.lst []) = h := set_same e
    simp only [g__law_next, b__law_next, sSeq, sAsg, sIf, sRet, sRetN, sExpr, sNext, sPar, sPar3, sBk, sCt, sFor, sPut, gNm, gTp, gsCons, gsNil, xVar, xC, xOp, xUn, xCons, xNil, xArgs, xCall, xTup, xLst, xBox, boxM, xIf, xAnd, xOr, xNot, xB, xAndT, xOrT, xNotT, xAppend, xPop, xPopAt, xExtend, xSlL, xPart, xNoPart, iSeq, iRange1, iRange2, cYes, seqOf, listOf, isLstC, runDef, sBegin, List.map_cons, List.map_nil, List.length_cons, List.length_nil, List.getElem?_cons_zero, List.getElem?_cons_succ, List.getElem?_nil, List.set_cons_zero, List.set_cons_succ, List.cons_append, List.nil_append, List.append_nil, Nat.sub_self, Nat.zero_add, Nat.reduceAdd, Nat.reduceSub, Nat.add_one_sub_one, List.replicate_zero, List.replicate_succ, Option.map_some, if_true, if_false, decide_true, decide_false, Bool.not_true, Bool.not_false, Bool.true_or, Bool.false_or, Bool.or_true, Bool.or_false, Bool.true_and, Bool.false_and, Bool.and_true, Bool.and_false, beq_self_eq_true, opAdd, opSub, opNeg, opLt, opLe, opGt, opGe, opIx, fLen, fAbs, fMax2, fMin2, fIsi, tyN, fList, fTuple, st_NoneType_bool, st_NoneType_int, st_NoneType_str, st_NoneType_tuple, st_NoneType_list, st_NoneType_dict, st_bool_bool, st_bool_int, st_bool_str, st_bool_tuple, st_bool_list, st_bool_dict, st_int_bool, st_int_int, st_int_str, st_int_tuple, st_int_list, st_int_dict, st_str_bool, st_str_int, st_str_str, st_str_tuple, st_str_list, st_str_dict, st_tuple_bool, st_tuple_int, st_tuple_str, st_tuple_tuple, st_tuple_list, st_tuple_dict, st_list_bool, st_list_int, st_list_str, st_list_tuple, st_list_list, st_list_dict, st_dict_bool, st_dict_int, st_dict_str, st_dict_tuple, st_dict_list, st_dict_dict, eq1, List.headD_nil, List.tail_nil, ss]
  | cons x xs =>
    have eq1 : opEq h (.ref d) (.lst []) = some (.bl false) := by
      unfold opEq eqM
      simp only [rdM, e]
      rw [isD_ints 59 (x :: xs)]
      rfl
    have z0 : (-(2 : Int) ^ 62 ≤ 0 ∧ (0 : Int) < 2 ^ 62) := by decide
    have i0 : ixM (xs.length + 1) 0 = some 0 := by unfold ixM; rw [if_pos (by omega), if_pos (by omega)]; rfl
    simp only [g__law_next, b__law_next, sSeq, sAsg, sIf, sRet, sRetN, sExpr, sNext, sPar, sPar3, sBk, sCt, sFor, sPut, gNm, gTp, gsCons, gsNil, xVar, xC, xOp, xUn, xCons, xNil, xArgs, xCall, xTup, xLst, xBox, boxM, xIf, xAnd, xOr, xNot, xB, xAndT, xOrT, xNotT, xAppend, xPop, xPopAt, xExtend, xSlL, xPart, xNoPart, iSeq, iRange1, iRange2, cYes, seqOf, listOf, isLstC, runDef, sBegin, List.map_cons, List.map_nil, List.length_cons, List.length_nil, List.getElem?_cons_zero, List.getElem?_cons_succ, List.getElem?_nil, List.set_cons_zero, List.set_cons_succ, List.cons_append, List.nil_append, List.append_nil, Nat.sub_self, Nat.zero_add, Nat.reduceAdd, Nat.reduceSub, Nat.add_one_sub_one, List.replicate_zero, List.replicate_succ, Option.map_some, if_true, if_false, decide_true, decide_false, Bool.not_true, Bool.not_false, Bool.true_or, Bool.false_or, Bool.or_true, Bool.or_false, Bool.true_and, Bool.false_and, Bool.and_true, Bool.and_false, beq_self_eq_true, opAdd, opSub, opNeg, opLt, opLe, opGt, opGe, opIx, fLen, fAbs, fMax2, fMin2, fIsi, tyN, fList, fTuple, st_NoneType_bool, st_NoneType_int, st_NoneType_str, st_NoneType_tuple, st_NoneType_list, st_NoneType_dict, st_bool_bool, st_bool_int, st_bool_str, st_bool_tuple, st_bool_list, st_bool_dict, st_int_bool, st_int_int, st_int_str, st_int_tuple, st_int_list, st_int_dict, st_str_bool, st_str_int, st_str_str, st_str_tuple, st_str_list, st_str_dict, st_tuple_bool, st_tuple_int, st_tuple_str, st_tuple_tuple, st_tuple_list, st_tuple_dict, st_list_bool, st_list_int, st_list_str, st_list_tuple, st_list_list, st_list_dict, st_dict_bool, st_dict_int, st_dict_str, st_dict_tuple, st_dict_list, st_dict_dict, eq1, e, List.map_cons, List.length_map, z0, and_self, if_true, i0, List.eraseIdx_cons_zero, List.headD_cons, List.tail_cons]
theorem Drawn.tail {ds : List Int} (h : Drawn ds) : Drawn ds.tail := fun x hx => h x (List.mem_of_mem_tail hx)
theorem Drawn.head {ds : List Int} (h : Drawn ds) : 0 ≤ ds.headD 0 ∧ ds.headD 0 < 2147483629 := by
  cases ds with
  | nil => exact ⟨by decide, by decide⟩
  | cons x xs => exact h x List.mem_cons_self
def W1__law_low : XT := (xB (xOp opGt (xVar 3) (xC (.int 0))))
def B1__law_low : XS := (sPar 2 3 (xVar 3) (xOp opMod (xVar 2) (xVar 3)))
def b__law_low : XS := (sSeq (sPar 2 3 (xArgs fAbs (xCons (xVar 0) xNil)) (xVar 1))
    (sSeq (sWhile W1__law_low B1__law_low)
    (sRet (xTup (xCons (xOp opDiv (xVar 0) (xVar 2)) (xCons (xOp opDiv (xVar 1) (xVar 2)) xNil))))))
def g__law_low : Fn := runDef 4 b__law_low

theorem low_loop (a b : Int) (h : MH) (x0 y0 : Int) (ha : 0 ≤ x0) (hb : 0 ≤ y0) (hb2 : y0 < 1606938044258990275541962092341162602522202993782792835301376) : sWhile W1__law_low B1__law_low [some (.int a), some (.int b), some (.int x0), some (.int y0)] h
    = some (.nx, [some (.int a), some (.int b), some (.int (Int.gcd x0 y0 : Nat)), some (.int 0)], h) := by
  obtain ⟨s', h', e, rfl, rfl⟩ := sWhile_run (c := W1__law_low) (b := B1__law_low)
    (fun s h1 => ∃ x y : Int, s = [some (.int a), some (.int b), some (.int x), some (.int y)] ∧ h1 = h ∧ 0 ≤ x ∧ 0 ≤ y ∧ y < 1606938044258990275541962092341162602522202993782792835301376 ∧ Int.gcd x y = Int.gcd x0 y0)
    (fun s h1 => s = [some (.int a), some (.int b), some (.int (Int.gcd x0 y0 : Nat)), some (.int 0)] ∧ h1 = h)
    (fun s _ => match s with | [_, _, _, some (.int y)] => y.toNat | _ => 0)
    (by
      rintro s h1 ⟨x, y, rfl, rfl, hx, hy, hy2, hg⟩
      by_cases q : 0 < y
      · refine .inr ⟨h1, .nx, [some (.int a), some (.int b), some (.int y), some (.int (x % y))], h1, ?_, ?_, .inl rfl, ⟨y, x % y, rfl, rfl, hy, Int.emod_nonneg x (by omega), ?_, ?_⟩, ?_⟩
        · simp only [W1__law_low, sSeq, sAsg, sIf, sRet, sRetN, sExpr, sNext, sPar, sPar3, sBk, sCt, sFor, sPut, gNm, gTp, gsCons, gsNil, xVar, xC, xOp, xUn, xCons, xNil, xArgs, xCall, xTup, xLst, xBox, boxM, xIf, xAnd, xOr, xNot, xB, xAndT, xOrT, xNotT, xAppend, xPop, xPopAt, xExtend, xSlL, xPart, xNoPart, iSeq, iRange1, iRange2, cYes, seqOf, listOf, isLstC, runDef, sBegin, List.map_cons, List.map_nil, List.length_cons, List.length_nil, List.getElem?_cons_zero, List.getElem?_cons_succ, List.getElem?_nil, List.set_cons_zero, List.set_cons_succ, List.cons_append, List.nil_append, List.append_nil, Nat.sub_self, Nat.zero_add, Nat.reduceAdd, Nat.reduceSub, Nat.add_one_sub_one, List.replicate_zero, List.replicate_succ, Option.map_some, if_true, if_false, decide_true, decide_false, Bool.not_true, Bool.not_false, Bool.true_or, Bool.false_or, Bool.or_true, Bool.or_false, Bool.true_and, Bool.false_and, Bool.and_true, Bool.and_false, beq_self_eq_true, opAdd, opSub, opNeg, opLt, opLe, opGt, opGe, opIx, fLen, fAbs, fMax2, fMin2, fIsi, tyN, fList, fTuple, st_NoneType_bool, st_NoneType_int, st_NoneType_str, st_NoneType_tuple, st_NoneType_list, st_NoneType_dict, st_bool_bool, st_bool_int, st_bool_str, st_bool_tuple, st_bool_list, st_bool_dict, st_int_bool, st_int_int, st_int_str, st_int_tuple, st_int_list, st_int_dict, st_str_bool, st_str_int, st_str_str, st_str_tuple, st_str_list, st_str_dict, st_tuple_bool, st_tuple_int, st_tuple_str, st_tuple_tuple, st_tuple_list, st_tuple_dict, st_list_bool, st_list_int, st_list_str, st_list_tuple, st_list_list, st_list_dict, st_dict_bool, st_dict_int, st_dict_str, st_dict_tuple, st_dict_list, st_dict_dict, q]
        · simp (discharger := omega) only [B1__law_low, sSeq, sAsg, sIf, sRet, sRetN, sExpr, sNext, sPar, sPar3, sBk, sCt, sFor, sPut, gNm, gTp, gsCons, gsNil, xVar, xC, xOp, xUn, xCons, xNil, xArgs, xCall, xTup, xLst, xBox, boxM, xIf, xAnd, xOr, xNot, xB, xAndT, xOrT, xNotT, xAppend, xPop, xPopAt, xExtend, xSlL, xPart, xNoPart, iSeq, iRange1, iRange2, cYes, seqOf, listOf, isLstC, runDef, sBegin, List.map_cons, List.map_nil, List.length_cons, List.length_nil, List.getElem?_cons_zero, List.getElem?_cons_succ, List.getElem?_nil, List.set_cons_zero, List.set_cons_succ, List.cons_append, List.nil_append, List.append_nil, Nat.sub_self, Nat.zero_add, Nat.reduceAdd, Nat.reduceSub, Nat.add_one_sub_one, List.replicate_zero, List.replicate_succ, Option.map_some, if_true, if_false, decide_true, decide_false, Bool.not_true, Bool.not_false, Bool.true_or, Bool.false_or, Bool.or_true, Bool.or_false, Bool.true_and, Bool.false_and, Bool.and_true, Bool.and_false, beq_self_eq_true, opAdd, opSub, opNeg, opLt, opLe, opGt, opGe, opIx, fLen, fAbs, fMax2, fMin2, fIsi, tyN, fList, fTuple, st_NoneType_bool, st_NoneType_int, st_NoneType_str, st_NoneType_tuple, st_NoneType_list, st_NoneType_dict, st_bool_bool, st_bool_int, st_bool_str, st_bool_tuple, st_bool_list, st_bool_dict, st_int_bool, st_int_int, st_int_str, st_int_tuple, st_int_list, st_int_dict, st_str_bool, st_str_int, st_str_str, st_str_tuple, st_str_list, st_str_dict, st_tuple_bool, st_tuple_int, st_tuple_str, st_tuple_tuple, st_tuple_list, st_tuple_dict, st_list_bool, st_list_int, st_list_str, st_list_tuple, st_list_list, st_list_dict, st_dict_bool, st_dict_int, st_dict_str, st_dict_tuple, st_dict_list, st_dict_dict, mod_ok]
        · have := Int.emod_lt_of_pos x q; omega
        · rw [← hg]
          obtain ⟨m, rfl⟩ := Int.eq_ofNat_of_zero_le hx
          obtain ⟨n, rfl⟩ := Int.eq_ofNat_of_zero_le hy
          rw [← Int.natCast_emod]
          show Nat.gcd n (m % n) = Nat.gcd m n
          rw [Nat.gcd_comm m n, Nat.gcd_rec n m, Nat.gcd_comm]
        · have := Int.emod_lt_of_pos x q
          have := Int.emod_nonneg x (show y ≠ 0 by omega)
          show (x % y).toNat < y.toNat
          omega
      · have e : y = 0 := by omega
        subst e
        refine .inl ⟨h1, ?_, ?_, rfl⟩
        · simp only [W1__law_low, sSeq, sAsg, sIf, sRet, sRetN, sExpr, sNext, sPar, sPar3, sBk, sCt, sFor, sPut, gNm, gTp, gsCons, gsNil, xVar, xC, xOp, xUn, xCons, xNil, xArgs, xCall, xTup, xLst, xBox, boxM, xIf, xAnd, xOr, xNot, xB, xAndT, xOrT, xNotT, xAppend, xPop, xPopAt, xExtend, xSlL, xPart, xNoPart, iSeq, iRange1, iRange2, cYes, seqOf, listOf, isLstC, runDef, sBegin, List.map_cons, List.map_nil, List.length_cons, List.length_nil, List.getElem?_cons_zero, List.getElem?_cons_succ, List.getElem?_nil, List.set_cons_zero, List.set_cons_succ, List.cons_append, List.nil_append, List.append_nil, Nat.sub_self, Nat.zero_add, Nat.reduceAdd, Nat.reduceSub, Nat.add_one_sub_one, List.replicate_zero, List.replicate_succ, Option.map_some, if_true, if_false, decide_true, decide_false, Bool.not_true, Bool.not_false, Bool.true_or, Bool.false_or, Bool.or_true, Bool.or_false, Bool.true_and, Bool.false_and, Bool.and_true, Bool.and_false, beq_self_eq_true, opAdd, opSub, opNeg, opLt, opLe, opGt, opGe, opIx, fLen, fAbs, fMax2, fMin2, fIsi, tyN, fList, fTuple, st_NoneType_bool, st_NoneType_int, st_NoneType_str, st_NoneType_tuple, st_NoneType_list, st_NoneType_dict, st_bool_bool, st_bool_int, st_bool_str, st_bool_tuple, st_bool_list, st_bool_dict, st_int_bool, st_int_int, st_int_str, st_int_tuple, st_int_list, st_int_dict, st_str_bool, st_str_int, st_str_str, st_str_tuple, st_str_list, st_str_dict, st_tuple_bool, st_tuple_int, st_tuple_str, st_tuple_tuple, st_tuple_list, st_tuple_dict, st_list_bool, st_list_int, st_list_str, st_list_tuple, st_list_list, st_list_dict, st_dict_bool, st_dict_int, st_dict_str, st_dict_tuple, st_dict_list, st_dict_dict]; rfl
        · rw [← hg, Int.gcd_zero_right]
          have : ((x.natAbs : Nat) : Int) = x := by omega
          rw [this])
    [some (.int a), some (.int b), some (.int x0), some (.int y0)] h ⟨x0, y0, rfl, rfl, ha, hb, hb2, rfl⟩
  exact e
theorem low_at (a b : Int) (h : MH) (hb : 0 < b) (hb2 : b < 1606938044258990275541962092341162602522202993782792835301376) : g__law_low [.int a, .int b] h = some (frV (lowOf a b), h) := by
  obtain ⟨g0, g1⟩ := gcd_rng (a := a) hb
  have e := low_loop a b h (if a < 0 then -a else a) b (by split <;> omega) (by omega) hb2
  rw [gcd_abs] at e
  simp (discharger := omega) only [g__law_low, b__law_low, sSeq, sAsg, sIf, sRet, sRetN, sExpr, sNext, sPar, sPar3, sBk, sCt, sFor, sPut, gNm, gTp, gsCons, gsNil, xVar, xC, xOp, xUn, xCons, xNil, xArgs, xCall, xTup, xLst, xBox, boxM, xIf, xAnd, xOr, xNot, xB, xAndT, xOrT, xNotT, xAppend, xPop, xPopAt, xExtend, xSlL, xPart, xNoPart, iSeq, iRange1, iRange2, cYes, seqOf, listOf, isLstC, runDef, sBegin, List.map_cons, List.map_nil, List.length_cons, List.length_nil, List.getElem?_cons_zero, List.getElem?_cons_succ, List.getElem?_nil, List.set_cons_zero, List.set_cons_succ, List.cons_append, List.nil_append, List.append_nil, Nat.sub_self, Nat.zero_add, Nat.reduceAdd, Nat.reduceSub, Nat.add_one_sub_one, List.replicate_zero, List.replicate_succ, Option.map_some, if_true, if_false, decide_true, decide_false, Bool.not_true, Bool.not_false, Bool.true_or, Bool.false_or, Bool.or_true, Bool.or_false, Bool.true_and, Bool.false_and, Bool.and_true, Bool.and_false, beq_self_eq_true, opAdd, opSub, opNeg, opLt, opLe, opGt, opGe, opIx, fLen, fAbs, fMax2, fMin2, fIsi, tyN, fList, fTuple, st_NoneType_bool, st_NoneType_int, st_NoneType_str, st_NoneType_tuple, st_NoneType_list, st_NoneType_dict, st_bool_bool, st_bool_int, st_bool_str, st_bool_tuple, st_bool_list, st_bool_dict, st_int_bool, st_int_int, st_int_str, st_int_tuple, st_int_list, st_int_dict, st_str_bool, st_str_int, st_str_str, st_str_tuple, st_str_list, st_str_dict, st_tuple_bool, st_tuple_int, st_tuple_str, st_tuple_tuple, st_tuple_list, st_tuple_dict, st_list_bool, st_list_int, st_list_str, st_list_tuple, st_list_list, st_list_dict, st_dict_bool, st_dict_int, st_dict_str, st_dict_tuple, st_dict_list, st_dict_dict, e, div_ok]
  rfl

def b_added : XS := (sRet (xCall g_fraction (xCons (xOp opAdd (xOp opMul (xOp opIx (xVar 0) (xC (.int 0))) (xOp opIx (xVar 1) (xC (.int 1)))) (xOp opMul (xOp opIx (xVar 1) (xC (.int 0))) (xOp opIx (xVar 0) (xC (.int 1))))) (xCons (xOp opMul (xOp opIx (xVar 0) (xC (.int 1))) (xOp opIx (xVar 1) (xC (.int 1)))) xNil))))
def g_added : Fn := runDef 2 b_added


def b_less : XS := (sRet (xCall g_fraction (xCons (xOp opSub (xOp opMul (xOp opIx (xVar 0) (xC (.int 0))) (xOp opIx (xVar 1) (xC (.int 1)))) (xOp opMul (xOp opIx (xVar 1) (xC (.int 0))) (xOp opIx (xVar 0) (xC (.int 1))))) (xCons (xOp opMul (xOp opIx (xVar 0) (xC (.int 1))) (xOp opIx (xVar 1) (xC (.int 1)))) xNil))))
def g_less : Fn := runDef 2 b_less


def b_times : XS := (sRet (xCall g_fraction (xCons (xOp opMul (xOp opIx (xVar 0) (xC (.int 0))) (xOp opIx (xVar 1) (xC (.int 0)))) (xCons (xOp opMul (xOp opIx (xVar 0) (xC (.int 1))) (xOp opIx (xVar 1) (xC (.int 1)))) xNil))))
def g_times : Fn := runDef 2 b_times


def b_over : XS := (sRet (xCall g_fraction (xCons (xOp opMul (xOp opIx (xVar 0) (xC (.int 0))) (xOp opIx (xVar 1) (xC (.int 1)))) (xCons (xOp opMul (xOp opIx (xVar 0) (xC (.int 1))) (xOp opIx (xVar 1) (xC (.int 0)))) xNil))))
def g_over : Fn := runDef 2 b_over


def b_is_below : XS := (sRet (xOp opLt (xOp opMul (xOp opIx (xVar 0) (xC (.int 0))) (xOp opIx (xVar 1) (xC (.int 1)))) (xOp opMul (xOp opIx (xVar 1) (xC (.int 0))) (xOp opIx (xVar 0) (xC (.int 1))))))
def g_is_below : Fn := runDef 2 b_is_below


def b__law_drawn : XS := (sSeq (sAsg (xCall g__law_next (xCons (xVar 0) xNil)) (gNm 1))
    (sSeq (sAsg (xOp opIx (xLst (xCons (xOp opMod (xOp opDiv (xVar 1) (xC (.int 20))) (xC (.int 13))) (xCons (xOp opDiv (xVar 1) (xC (.int 20))) (xCons (xOp opMul (xOp opMul (xVar 1) (xVar 1)) (xC (.int 6))) (xCons (xOp opMul (xOp opMod (xOp opDiv (xVar 1) (xC (.int 20))) (xC (.int 7))) (xOp opPow (xC (.int 10)) (xC (.int 20)))) xNil))))) (xOp opMod (xVar 1) (xC (.int 4)))) (gNm 2))
    (sSeq (sAsg (xOp opAdd (xC (.int 1)) (xOp opIx (xLst (xCons (xOp opMod (xOp opDiv (xVar 1) (xC (.int 400))) (xC (.int 60))) (xCons (xOp opDiv (xVar 1) (xC (.int 20))) (xCons (xC (.int 0)) (xCons (xOp opMul (xOp opDiv (xVar 1) (xC (.int 20))) (xOp opPow (xC (.int 10)) (xC (.int 9)))) xNil))))) (xOp opMod (xOp opDiv (xVar 1) (xC (.int 4))) (xC (.int 4))))) (gNm 3))
    (sRet (xCall g__law_low (xCons (xOp opMul (xVar 2) (xOp opIx (xLst (xCons (xC (.int 1)) (xCons (xUn opNeg (xC (.int 1))) xNil))) (xOp opMod (xOp opDiv (xVar 1) (xC (.int 16))) (xC (.int 2))))) (xCons (xVar 3) xNil)))))))
def g__law_drawn : Fn := runDef 4 b__law_drawn

def B1__law_same : XS := (sIf (xOrT (xNotT (xB (xArgs (fIsi "int") (xCons (xVar 3) xNil)))) (xB (xArgs (fIsi "bool") (xCons (xVar 3) xNil)))) (sRet (xC (.bl false))) sNext)
def b__law_same : XS := (sSeq (sIf (xB (xOp opLt (xVar 2) (xC (.int 0)))) (sPar 1 2 (xOp opSub (xC (.int 0)) (xVar 1)) (xOp opSub (xC (.int 0)) (xVar 2))) sNext)
    (sSeq (sIf (xOrT (xNotT (xB (xArgs (fIsi "tuple") (xCons (xVar 0) xNil)))) (xB (xOp opNe (xVar 0) (xCall g__law_low (xCons (xVar 1) (xCons (xVar 2) xNil)))))) (sRet (xC (.bl false))) sNext)
    (sSeq (sFor (iSeq (xVar 0)) (gNm 3) B1__law_same)
    (sRet (xC (.bl true))))))
def g__law_same : Fn := runDef 4 b__law_same


def b__law_good : XS := (sSeq (sAsg (xVar 0) (gTp 2 (gsCons (gNm 2) (gsCons (gNm 3) gsNil))))
    (sSeq (sAsg (xVar 1) (gTp 2 (gsCons (gNm 4) (gsCons (gNm 5) gsNil))))
    (sSeq (sIf (xOrT (xNotT (xB (xCall g__law_same (xCons (xCall g_added (xCons (xVar 0) (xCons (xVar 1) xNil))) (xCons (xOp opAdd (xOp opMul (xVar 2) (xVar 5)) (xOp opMul (xVar 4) (xVar 3))) (xCons (xOp opMul (xVar 3) (xVar 5)) xNil)))))) (xNotT (xB (xCall g__law_same (xCons (xCall g_less (xCons (xVar 0) (xCons (xVar 1) xNil))) (xCons (xOp opSub (xOp opMul (xVar 2) (xVar 5)) (xOp opMul (xVar 4) (xVar 3))) (xCons (xOp opMul (xVar 3) (xVar 5)) xNil))))))) (sRet (xC (.bl false))) sNext)
    (sSeq (sIf (xNotT (xB (xCall g__law_same (xCons (xCall g_times (xCons (xVar 0) (xCons (xVar 1) xNil))) (xCons (xOp opMul (xVar 2) (xVar 4)) (xCons (xOp opMul (xVar 3) (xVar 5)) xNil)))))) (sRet (xC (.bl false))) sNext)
    (sSeq (sIf (xAndT (xB (xOp opNe (xVar 4) (xC (.int 0)))) (xNotT (xB (xCall g__law_same (xCons (xCall g_over (xCons (xVar 0) (xCons (xVar 1) xNil))) (xCons (xOp opMul (xVar 2) (xVar 5)) (xCons (xOp opMul (xVar 3) (xVar 4)) xNil))))))) (sRet (xC (.bl false))) sNext)
    (sSeq (sAsg (xCall g_is_below (xCons (xVar 0) (xCons (xVar 1) xNil))) (gNm 6))
    (sRet (xAnd (xArgs (fIsi "bool") (xCons (xVar 6) xNil)) (xOp opEq (xVar 6) (xOp opLt (xOp opMul (xVar 2) (xVar 5)) (xOp opMul (xVar 4) (xVar 3))))))))))))
def g__law_good : Fn := runDef 7 b__law_good

def B1_law : XS := (sSeq (sAsg (xCall g__law_drawn (xCons (xVar 1) xNil)) (gNm 3))
    (sSeq (sAsg (xCall g__law_drawn (xCons (xVar 1) xNil)) (gNm 4))
    (sSeq (sIf (xB (xOp opEq (xOp opMod (xVar 2) (xC (.int 4))) (xC (.int 3)))) (sAsg (xVar 3) (gNm 4)) sNext)
    (sIf (xOrT (xNotT (xB (xCall g__law_good (xCons (xVar 3) (xCons (xVar 4) xNil))))) (xOrT (xNotT (xB (xCall g__law_good (xCons (xVar 4) (xCons (xVar 3) xNil))))) (xNotT (xB (xCall g__law_good (xCons (xVar 3) (xCons (xVar 3) xNil))))))) (sRet (xC (.bl false))) sNext))))
def b_law : XS := (sSeq (sAsg (xCall g__law_draws (xCons (xVar 0) xNil)) (gNm 1))
    (sSeq (sFor (iRange1 (xOp opAdd (xC (.int 3)) (xOp opDiv (xArgs fLen (xCons (xVar 1) xNil)) (xC (.int 12))))) (gNm 2) B1_law)
    (sRet (xC (.bl true)))))
def g_law : Fn := runDef 5 b_law

/-- fine fractions -/
def Fine (p : Int × Int) : Prop := -1267650600228229401496703205376 < p.1 ∧ p.1 < 1267650600228229401496703205376 ∧ 0 < p.2 ∧ p.2 < 18446744073709551616
theorem low_fine (a b : Int) (a0 : -1267650600228229401496703205376 < a) (a1 : a < 1267650600228229401496703205376) (b0 : 0 < b) (b1 : b < 18446744073709551616) : Fine (lowOf a b) := by
  obtain ⟨g0, g1⟩ := gcd_rng (a := a) b0
  unfold Fine lowOf
  have hd : ((Int.gcd a b : Nat) : Int) ∣ b := Int.gcd_dvd_right a b
  generalize ((Int.gcd a b : Nat) : Int) = g at g0 g1 hd
  refine ⟨?_, ?_, ?_, ?_⟩
  · show _ < a / g
    have := Int.le_ediv_of_mul_le (a := -1267650600228229401496703205375) (b := a) g0 (by
      by_cases q : g = 1
      · subst q; omega
      · have : -1267650600228229401496703205375 * g ≤ -1267650600228229401496703205375 * 1 := Int.mul_le_mul_of_nonpos_left (by decide) (by omega)
        omega)
    omega
  · show a / g < _
    by_cases q : 0 ≤ a
    · have := Int.ediv_le_self g q; omega
    · have := Int.ediv_neg_of_neg_of_pos (show a < 0 by omega) g0; omega
  · show 0 < b / g
    exact Int.ediv_pos_of_pos_of_dvd b0 (by omega) hd
  · show b / g < _
    have := Int.ediv_le_self g (show 0 ≤ b by omega); omega
theorem bd {x y : Int} {X Y : Nat} (Z : Nat) (hx : x.natAbs < X) (hy : y.natAbs < Y) (hz : X * Y ≤ Z) : -(Z : Int) < x * y ∧ x * y < (Z : Int) := by
  have := abs_mul hx hy
  omega
theorem fr_at (a b : Int) (h : MH) (hb : b ≠ 0) (q : -1606938044258990275541962092341162602522202993782792835301376 < b ∧ b < 1606938044258990275541962092341162602522202993782792835301376) : g_fraction [.int a, .int b] h = some (frV (fracOf a b), h) := fraction_at a b h hb q.2 q.1
section
variable {p q : Int × Int} (P : Fine p) (Q : Fine q) (h : MH)
theorem Fine.a {p : Int × Int} (P : Fine p) : p.1.natAbs < 1267650600228229401496703205376 := by have := P.1; have := P.2.1; omega
theorem Fine.b {p : Int × Int} (P : Fine p) : p.2.natAbs < 18446744073709551616 := by have := P.2.2.1; have := P.2.2.2; omega
include P Q
theorem ad_bd : (-1606938044258990275541962092341162602522202993782792835301376 < p.1 * q.2 ∧ p.1 * q.2 < 1606938044258990275541962092341162602522202993782792835301376) := bd _ P.a Q.b (by decide)
theorem bb_bd : (-1606938044258990275541962092341162602522202993782792835301376 < p.2 * q.2 ∧ p.2 * q.2 < 1606938044258990275541962092341162602522202993782792835301376) ∧ p.2 * q.2 ≠ 0 := ⟨bd _ P.b Q.b (by decide), by
  have := Int.mul_pos P.2.2.1 Q.2.2.1; omega⟩
theorem aa_bd : (-1606938044258990275541962092341162602522202993782792835301376 < p.1 * q.1 ∧ p.1 * q.1 < 1606938044258990275541962092341162602522202993782792835301376) := bd _ P.a Q.a (by decide)
theorem small : (-1606938044258990275541962092341162602522202993782792835301376 < p.1 ∧ p.1 < 1606938044258990275541962092341162602522202993782792835301376) ∧ (-1606938044258990275541962092341162602522202993782792835301376 < p.2 ∧ p.2 < 1606938044258990275541962092341162602522202993782792835301376) ∧ (-1606938044258990275541962092341162602522202993782792835301376 < q.1 ∧ q.1 < 1606938044258990275541962092341162602522202993782792835301376) ∧ (-1606938044258990275541962092341162602522202993782792835301376 < q.2 ∧ q.2 < 1606938044258990275541962092341162602522202993782792835301376) := by
  have := P.1; have := P.2.1; have := P.2.2.1; have := P.2.2.2
  have := Q.1; have := Q.2.1; have := Q.2.2.1; have := Q.2.2.2
  omega
theorem added_at : g_added [frV p, frV q] h = some (frV (fracOf (p.1 * q.2 + q.1 * p.2) (p.2 * q.2)), h) := by
  obtain ⟨⟨_, _⟩, ⟨_, _⟩, ⟨_, _⟩, _, _⟩ := small P Q
  obtain ⟨B, n⟩ := bb_bd P Q
  have e := fr_at (p.1 * q.2 + q.1 * p.2) _ h n B
  simp (discharger := omega) only [g_added, b_added, sSeq, sAsg, sIf, sRet, sRetN, sExpr, sNext, sPar, sPar3, sBk, sCt, sFor, sPut, gNm, gTp, gsCons, gsNil, xVar, xC, xOp, xUn, xCons, xNil, xArgs, xCall, xTup, xLst, xBox, boxM, xIf, xAnd, xOr, xNot, xB, xAndT, xOrT, xNotT, xAppend, xPop, xPopAt, xExtend, xSlL, xPart, xNoPart, iSeq, iRange1, iRange2, cYes, seqOf, listOf, isLstC, runDef, sBegin, List.map_cons, List.map_nil, List.length_cons, List.length_nil, List.getElem?_cons_zero, List.getElem?_cons_succ, List.getElem?_nil, List.set_cons_zero, List.set_cons_succ, List.cons_append, List.nil_append, List.append_nil, Nat.sub_self, Nat.zero_add, Nat.reduceAdd, Nat.reduceSub, Nat.add_one_sub_one, List.replicate_zero, List.replicate_succ, Option.map_some, if_true, if_false, decide_true, decide_false, Bool.not_true, Bool.not_false, Bool.true_or, Bool.false_or, Bool.or_true, Bool.or_false, Bool.true_and, Bool.false_and, Bool.and_true, Bool.and_false, beq_self_eq_true, opAdd, opSub, opNeg, opLt, opLe, opGt, opGe, opIx, fLen, fAbs, fMax2, fMin2, fIsi, tyN, fList, fTuple, st_NoneType_bool, st_NoneType_int, st_NoneType_str, st_NoneType_tuple, st_NoneType_list, st_NoneType_dict, st_bool_bool, st_bool_int, st_bool_str, st_bool_tuple, st_bool_list, st_bool_dict, st_int_bool, st_int_int, st_int_str, st_int_tuple, st_int_list, st_int_dict, st_str_bool, st_str_int, st_str_str, st_str_tuple, st_str_list, st_str_dict, st_tuple_bool, st_tuple_int, st_tuple_str, st_tuple_tuple, st_tuple_list, st_tuple_dict, st_list_bool, st_list_int, st_list_str, st_list_tuple, st_list_list, st_list_dict, st_dict_bool, st_dict_int, st_dict_str, st_dict_tuple, st_dict_list, st_dict_dict, frV, at_0, at_1, mul_ok, e]
theorem less_at : g_less [frV p, frV q] h = some (frV (fracOf (p.1 * q.2 - q.1 * p.2) (p.2 * q.2)), h) := by
  obtain ⟨⟨_, _⟩, ⟨_, _⟩, ⟨_, _⟩, _, _⟩ := small P Q
  obtain ⟨B, n⟩ := bb_bd P Q
  have e := fr_at (p.1 * q.2 - q.1 * p.2) _ h n B
  simp (discharger := omega) only [g_less, b_less, sSeq, sAsg, sIf, sRet, sRetN, sExpr, sNext, sPar, sPar3, sBk, sCt, sFor, sPut, gNm, gTp, gsCons, gsNil, xVar, xC, xOp, xUn, xCons, xNil, xArgs, xCall, xTup, xLst, xBox, boxM, xIf, xAnd, xOr, xNot, xB, xAndT, xOrT, xNotT, xAppend, xPop, xPopAt, xExtend, xSlL, xPart, xNoPart, iSeq, iRange1, iRange2, cYes, seqOf, listOf, isLstC, runDef, sBegin, List.map_cons, List.map_nil, List.length_cons, List.length_nil, List.getElem?_cons_zero, List.getElem?_cons_succ, List.getElem?_nil, List.set_cons_zero, List.set_cons_succ, List.cons_append, List.nil_append, List.append_nil, Nat.sub_self, Nat.zero_add, Nat.reduceAdd, Nat.reduceSub, Nat.add_one_sub_one, List.replicate_zero, List.replicate_succ, Option.map_some, if_true, if_false, decide_true, decide_false, Bool.not_true, Bool.not_false, Bool.true_or, Bool.false_or, Bool.or_true, Bool.or_false, Bool.true_and, Bool.false_and, Bool.and_true, Bool.and_false, beq_self_eq_true, opAdd, opSub, opNeg, opLt, opLe, opGt, opGe, opIx, fLen, fAbs, fMax2, fMin2, fIsi, tyN, fList, fTuple, st_NoneType_bool, st_NoneType_int, st_NoneType_str, st_NoneType_tuple, st_NoneType_list, st_NoneType_dict, st_bool_bool, st_bool_int, st_bool_str, st_bool_tuple, st_bool_list, st_bool_dict, st_int_bool, st_int_int, st_int_str, st_int_tuple, st_int_list, st_int_dict, st_str_bool, st_str_int, st_str_str, st_str_tuple, st_str_list, st_str_dict, st_tuple_bool, st_tuple_int, st_tuple_str, st_tuple_tuple, st_tuple_list, st_tuple_dict, st_list_bool, st_list_int, st_list_str, st_list_tuple, st_list_list, st_list_dict, st_dict_bool, st_dict_int, st_dict_str, st_dict_tuple, st_dict_list, st_dict_dict, frV, at_0, at_1, mul_ok, e]
theorem times_at : g_times [frV p, frV q] h = some (frV (fracOf (p.1 * q.1) (p.2 * q.2)), h) := by
  obtain ⟨⟨_, _⟩, ⟨_, _⟩, ⟨_, _⟩, _, _⟩ := small P Q
  obtain ⟨B, n⟩ := bb_bd P Q
  have e := fr_at (p.1 * q.1) _ h n B
  simp (discharger := omega) only [g_times, b_times, sSeq, sAsg, sIf, sRet, sRetN, sExpr, sNext, sPar, sPar3, sBk, sCt, sFor, sPut, gNm, gTp, gsCons, gsNil, xVar, xC, xOp, xUn, xCons, xNil, xArgs, xCall, xTup, xLst, xBox, boxM, xIf, xAnd, xOr, xNot, xB, xAndT, xOrT, xNotT, xAppend, xPop, xPopAt, xExtend, xSlL, xPart, xNoPart, iSeq, iRange1, iRange2, cYes, seqOf, listOf, isLstC, runDef, sBegin, List.map_cons, List.map_nil, List.length_cons, List.length_nil, List.getElem?_cons_zero, List.getElem?_cons_succ, List.getElem?_nil, List.set_cons_zero, List.set_cons_succ, List.cons_append, List.nil_append, List.append_nil, Nat.sub_self, Nat.zero_add, Nat.reduceAdd, Nat.reduceSub, Nat.add_one_sub_one, List.replicate_zero, List.replicate_succ, Option.map_some, if_true, if_false, decide_true, decide_false, Bool.not_true, Bool.not_false, Bool.true_or, Bool.false_or, Bool.or_true, Bool.or_false, Bool.true_and, Bool.false_and, Bool.and_true, Bool.and_false, beq_self_eq_true, opAdd, opSub, opNeg, opLt, opLe, opGt, opGe, opIx, fLen, fAbs, fMax2, fMin2, fIsi, tyN, fList, fTuple, st_NoneType_bool, st_NoneType_int, st_NoneType_str, st_NoneType_tuple, st_NoneType_list, st_NoneType_dict, st_bool_bool, st_bool_int, st_bool_str, st_bool_tuple, st_bool_list, st_bool_dict, st_int_bool, st_int_int, st_int_str, st_int_tuple, st_int_list, st_int_dict, st_str_bool, st_str_int, st_str_str, st_str_tuple, st_str_list, st_str_dict, st_tuple_bool, st_tuple_int, st_tuple_str, st_tuple_tuple, st_tuple_list, st_tuple_dict, st_list_bool, st_list_int, st_list_str, st_list_tuple, st_list_list, st_list_dict, st_dict_bool, st_dict_int, st_dict_str, st_dict_tuple, st_dict_list, st_dict_dict, frV, at_0, at_1, mul_ok, e]
theorem cb_bd : (-1606938044258990275541962092341162602522202993782792835301376 < p.2 * q.1 ∧ p.2 * q.1 < 1606938044258990275541962092341162602522202993782792835301376) := bd _ P.b Q.a (by decide)
theorem over_at (n : q.1 ≠ 0) : g_over [frV p, frV q] h = some (frV (fracOf (p.1 * q.2) (p.2 * q.1)), h) := by
  obtain ⟨⟨_, _⟩, ⟨_, _⟩, ⟨_, _⟩, _, _⟩ := small P Q
  have B := cb_bd P Q
  have e := fr_at (p.1 * q.2) (p.2 * q.1) h (Int.mul_ne_zero (by have := P.2.2.1; omega) n) B
  simp (discharger := omega) only [g_over, b_over, sSeq, sAsg, sIf, sRet, sRetN, sExpr, sNext, sPar, sPar3, sBk, sCt, sFor, sPut, gNm, gTp, gsCons, gsNil, xVar, xC, xOp, xUn, xCons, xNil, xArgs, xCall, xTup, xLst, xBox, boxM, xIf, xAnd, xOr, xNot, xB, xAndT, xOrT, xNotT, xAppend, xPop, xPopAt, xExtend, xSlL, xPart, xNoPart, iSeq, iRange1, iRange2, cYes, seqOf, listOf, isLstC, runDef, sBegin, List.map_cons, List.map_nil, List.length_cons, List.length_nil, List.getElem?_cons_zero, List.getElem?_cons_succ, List.getElem?_nil, List.set_cons_zero, List.set_cons_succ, List.cons_append, List.nil_append, List.append_nil, Nat.sub_self, Nat.zero_add, Nat.reduceAdd, Nat.reduceSub, Nat.add_one_sub_one, List.replicate_zero, List.replicate_succ, Option.map_some, if_true, if_false, decide_true, decide_false, Bool.not_true, Bool.not_false, Bool.true_or, Bool.false_or, Bool.or_true, Bool.or_false, Bool.true_and, Bool.false_and, Bool.and_true, Bool.and_false, beq_self_eq_true, opAdd, opSub, opNeg, opLt, opLe, opGt, opGe, opIx, fLen, fAbs, fMax2, fMin2, fIsi, tyN, fList, fTuple, st_NoneType_bool, st_NoneType_int, st_NoneType_str, st_NoneType_tuple, st_NoneType_list, st_NoneType_dict, st_bool_bool, st_bool_int, st_bool_str, st_bool_tuple, st_bool_list, st_bool_dict, st_int_bool, st_int_int, st_int_str, st_int_tuple, st_int_list, st_int_dict, st_str_bool, st_str_int, st_str_str, st_str_tuple, st_str_list, st_str_dict, st_tuple_bool, st_tuple_int, st_tuple_str, st_tuple_tuple, st_tuple_list, st_tuple_dict, st_list_bool, st_list_int, st_list_str, st_list_tuple, st_list_list, st_list_dict, st_dict_bool, st_dict_int, st_dict_str, st_dict_tuple, st_dict_list, st_dict_dict, frV, at_0, at_1, mul_ok, e]
theorem below_at : g_is_below [frV p, frV q] h = some (.bl (decide (p.1 * q.2 < q.1 * p.2)), h) := by
  obtain ⟨⟨_, _⟩, ⟨_, _⟩, ⟨_, _⟩, _, _⟩ := small P Q
  simp (discharger := omega) only [g_is_below, b_is_below, sSeq, sAsg, sIf, sRet, sRetN, sExpr, sNext, sPar, sPar3, sBk, sCt, sFor, sPut, gNm, gTp, gsCons, gsNil, xVar, xC, xOp, xUn, xCons, xNil, xArgs, xCall, xTup, xLst, xBox, boxM, xIf, xAnd, xOr, xNot, xB, xAndT, xOrT, xNotT, xAppend, xPop, xPopAt, xExtend, xSlL, xPart, xNoPart, iSeq, iRange1, iRange2, cYes, seqOf, listOf, isLstC, runDef, sBegin, List.map_cons, List.map_nil, List.length_cons, List.length_nil, List.getElem?_cons_zero, List.getElem?_cons_succ, List.getElem?_nil, List.set_cons_zero, List.set_cons_succ, List.cons_append, List.nil_append, List.append_nil, Nat.sub_self, Nat.zero_add, Nat.reduceAdd, Nat.reduceSub, Nat.add_one_sub_one, List.replicate_zero, List.replicate_succ, Option.map_some, if_true, if_false, decide_true, decide_false, Bool.not_true, Bool.not_false, Bool.true_or, Bool.false_or, Bool.or_true, Bool.or_false, Bool.true_and, Bool.false_and, Bool.and_true, Bool.and_false, beq_self_eq_true, opAdd, opSub, opNeg, opLt, opLe, opGt, opGe, opIx, fLen, fAbs, fMax2, fMin2, fIsi, tyN, fList, fTuple, st_NoneType_bool, st_NoneType_int, st_NoneType_str, st_NoneType_tuple, st_NoneType_list, st_NoneType_dict, st_bool_bool, st_bool_int, st_bool_str, st_bool_tuple, st_bool_list, st_bool_dict, st_int_bool, st_int_int, st_int_str, st_int_tuple, st_int_list, st_int_dict, st_str_bool, st_str_int, st_str_str, st_str_tuple, st_str_list, st_str_dict, st_tuple_bool, st_tuple_int, st_tuple_str, st_tuple_tuple, st_tuple_list, st_tuple_dict, st_list_bool, st_list_int, st_list_str, st_list_tuple, st_list_list, st_list_dict, st_dict_bool, st_dict_int, st_dict_str, st_dict_tuple, st_dict_list, st_dict_dict, frV, at_0, at_1, mul_ok]
end
theorem same_loop (p : Int × Int) (h : MH) (s1 s2 : Option MV) : ∃ o, forGo (gNm 3) B1__law_same [.int p.1, .int p.2] [some (frV p), s1, s2, none] h = some (.nx, [some (frV p), s1, s2, o], h) := by
  refine ⟨some (.int p.2), ?_⟩
  simp only [forGo, B1__law_same, sSeq, sAsg, sIf, sRet, sRetN, sExpr, sNext, sPar, sPar3, sBk, sCt, sFor, sPut, gNm, gTp, gsCons, gsNil, xVar, xC, xOp, xUn, xCons, xNil, xArgs, xCall, xTup, xLst, xBox, boxM, xIf, xAnd, xOr, xNot, xB, xAndT, xOrT, xNotT, xAppend, xPop, xPopAt, xExtend, xSlL, xPart, xNoPart, iSeq, iRange1, iRange2, cYes, seqOf, listOf, isLstC, runDef, sBegin, List.map_cons, List.map_nil, List.length_cons, List.length_nil, List.getElem?_cons_zero, List.getElem?_cons_succ, List.getElem?_nil, List.set_cons_zero, List.set_cons_succ, List.cons_append, List.nil_append, List.append_nil, Nat.sub_self, Nat.zero_add, Nat.reduceAdd, Nat.reduceSub, Nat.add_one_sub_one, List.replicate_zero, List.replicate_succ, Option.map_some, if_true, if_false, decide_true, decide_false, Bool.not_true, Bool.not_false, Bool.true_or, Bool.false_or, Bool.or_true, Bool.or_false, Bool.true_and, Bool.false_and, Bool.and_true, Bool.and_false, beq_self_eq_true, opAdd, opSub, opNeg, opLt, opLe, opGt, opGe, opIx, fLen, fAbs, fMax2, fMin2, fIsi, tyN, fList, fTuple, st_NoneType_bool, st_NoneType_int, st_NoneType_str, st_NoneType_tuple, st_NoneType_list, st_NoneType_dict, st_bool_bool, st_bool_int, st_bool_str, st_bool_tuple, st_bool_list, st_bool_dict, st_int_bool, st_int_int, st_int_str, st_int_tuple, st_int_list, st_int_dict, st_str_bool, st_str_int, st_str_str, st_str_tuple, st_str_list, st_str_dict, st_tuple_bool, st_tuple_int, st_tuple_str, st_tuple_tuple, st_tuple_list, st_tuple_dict, st_list_bool, st_list_int, st_list_str, st_list_tuple, st_list_list, st_list_dict, st_dict_bool, st_dict_int, st_dict_str, st_dict_tuple, st_dict_list, st_dict_dict]
theorem same_at (a b : Int) (h : MH) (hb : b ≠ 0) (q : -1606938044258990275541962092341162602522202993782792835301376 < b ∧ b < 1606938044258990275541962092341162602522202993782792835301376) : g__law_same [frV (fracOf a b), .int a, .int b] h = some (.bl true, h) := by
  obtain ⟨q1, q2⟩ := q
  by_cases q : b < 0
  · obtain ⟨o, el⟩ := same_loop (fracOf a b) h (some (.int (0 - a))) (some (.int (0 - b)))
    have lo := low_at (0 - a) (0 - b) h (by omega) (by omega)
    have ef : fracOf a b = lowOf (0 - a) (0 - b) := by unfold fracOf; rw [if_pos q]
    have ee := ne_fr h (lowOf (0 - a) (0 - b)) (lowOf (0 - a) (0 - b))
    rw [ef] at el ⊢
    simp only [frV] at el lo ee ⊢
    simp only [g__law_same, b__law_same, sSeq, sAsg, sIf, sRet, sRetN, sExpr, sNext, sPar, sPar3, sBk, sCt, sFor, sPut, gNm, gTp, gsCons, gsNil, xVar, xC, xOp, xUn, xCons, xNil, xArgs, xCall, xTup, xLst, xBox, boxM, xIf, xAnd, xOr, xNot, xB, xAndT, xOrT, xNotT, xAppend, xPop, xPopAt, xExtend, xSlL, xPart, xNoPart, iSeq, iRange1, iRange2, cYes, seqOf, listOf, isLstC, runDef, sBegin, List.map_cons, List.map_nil, List.length_cons, List.length_nil, List.getElem?_cons_zero, List.getElem?_cons_succ, List.getElem?_nil, List.set_cons_zero, List.set_cons_succ, List.cons_append, List.nil_append, List.append_nil, Nat.sub_self, Nat.zero_add, Nat.reduceAdd, Nat.reduceSub, Nat.add_one_sub_one, List.replicate_zero, List.replicate_succ, Option.map_some, if_true, if_false, decide_true, decide_false, Bool.not_true, Bool.not_false, Bool.true_or, Bool.false_or, Bool.or_true, Bool.or_false, Bool.true_and, Bool.false_and, Bool.and_true, Bool.and_false, beq_self_eq_true, opAdd, opSub, opNeg, opLt, opLe, opGt, opGe, opIx, fLen, fAbs, fMax2, fMin2, fIsi, tyN, fList, fTuple, st_NoneType_bool, st_NoneType_int, st_NoneType_str, st_NoneType_tuple, st_NoneType_list, st_NoneType_dict, st_bool_bool, st_bool_int, st_bool_str, st_bool_tuple, st_bool_list, st_bool_dict, st_int_bool, st_int_int, st_int_str, st_int_tuple, st_int_list, st_int_dict, st_str_bool, st_str_int, st_str_str, st_str_tuple, st_str_list, st_str_dict, st_tuple_bool, st_tuple_int, st_tuple_str, st_tuple_tuple, st_tuple_list, st_tuple_dict, st_list_bool, st_list_int, st_list_str, st_list_tuple, st_list_list, st_list_dict, st_dict_bool, st_dict_int, st_dict_str, st_dict_tuple, st_dict_list, st_dict_dict, el, q, lo, ee]
  · obtain ⟨o, el⟩ := same_loop (fracOf a b) h (some (.int a)) (some (.int b))
    have lo := low_at a b h (by omega) (by omega)
    have ef : fracOf a b = lowOf a b := by unfold fracOf; rw [if_neg q]
    have ee := ne_fr h (lowOf a b) (lowOf a b)
    rw [ef] at el ⊢
    simp only [frV] at el lo ee ⊢
    simp only [g__law_same, b__law_same, sSeq, sAsg, sIf, sRet, sRetN, sExpr, sNext, sPar, sPar3, sBk, sCt, sFor, sPut, gNm, gTp, gsCons, gsNil, xVar, xC, xOp, xUn, xCons, xNil, xArgs, xCall, xTup, xLst, xBox, boxM, xIf, xAnd, xOr, xNot, xB, xAndT, xOrT, xNotT, xAppend, xPop, xPopAt, xExtend, xSlL, xPart, xNoPart, iSeq, iRange1, iRange2, cYes, seqOf, listOf, isLstC, runDef, sBegin, List.map_cons, List.map_nil, List.length_cons, List.length_nil, List.getElem?_cons_zero, List.getElem?_cons_succ, List.getElem?_nil, List.set_cons_zero, List.set_cons_succ, List.cons_append, List.nil_append, List.append_nil, Nat.sub_self, Nat.zero_add, Nat.reduceAdd, Nat.reduceSub, Nat.add_one_sub_one, List.replicate_zero, List.replicate_succ, Option.map_some, if_true, if_false, decide_true, decide_false, Bool.not_true, Bool.not_false, Bool.true_or, Bool.false_or, Bool.or_true, Bool.or_false, Bool.true_and, Bool.false_and, Bool.and_true, Bool.and_false, beq_self_eq_true, opAdd, opSub, opNeg, opLt, opLe, opGt, opGe, opIx, fLen, fAbs, fMax2, fMin2, fIsi, tyN, fList, fTuple, st_NoneType_bool, st_NoneType_int, st_NoneType_str, st_NoneType_tuple, st_NoneType_list, st_NoneType_dict, st_bool_bool, st_bool_int, st_bool_str, st_bool_tuple, st_bool_list, st_bool_dict, st_int_bool, st_int_int, st_int_str, st_int_tuple, st_int_list, st_int_dict, st_str_bool, st_str_int, st_str_str, st_str_tuple, st_str_list, st_str_dict, st_tuple_bool, st_tuple_int, st_tuple_str, st_tuple_tuple, st_tuple_list, st_tuple_dict, st_list_bool, st_list_int, st_list_str, st_list_tuple, st_list_list, st_list_dict, st_dict_bool, st_dict_int, st_dict_str, st_dict_tuple, st_dict_list, st_dict_dict, el, q, lo, ee]
theorem good_at {p q : Int × Int} (P : Fine p) (Q : Fine q) (h : MH) : g__law_good [frV p, frV q] h = some (.bl true, h) := by
  obtain ⟨⟨_, _⟩, ⟨_, _⟩, ⟨_, _⟩, _, _⟩ := small P Q
  obtain ⟨B, n⟩ := bb_bd P Q
  have e1 := added_at P Q h
  have e2 := less_at P Q h
  have e3 := times_at P Q h
  have e4 := below_at P Q h
  have s1 := same_at (p.1 * q.2 + q.1 * p.2) _ h n B
  have s2 := same_at (p.1 * q.2 - q.1 * p.2) _ h n B
  have s3 := same_at (p.1 * q.1) _ h n B
  by_cases c : q.1 = 0
  · have cb : (q.1 == 0) = true := beq_t c
    simp only [frV] at e1 e2 e3 e4 s1 s2 s3 ⊢
    simp (discharger := omega) only [g__law_good, b__law_good, sSeq, sAsg, sIf, sRet, sRetN, sExpr, sNext, sPar, sPar3, sBk, sCt, sFor, sPut, gNm, gTp, gsCons, gsNil, xVar, xC, xOp, xUn, xCons, xNil, xArgs, xCall, xTup, xLst, xBox, boxM, xIf, xAnd, xOr, xNot, xB, xAndT, xOrT, xNotT, xAppend, xPop, xPopAt, xExtend, xSlL, xPart, xNoPart, iSeq, iRange1, iRange2, cYes, seqOf, listOf, isLstC, runDef, sBegin, List.map_cons, List.map_nil, List.length_cons, List.length_nil, List.getElem?_cons_zero, List.getElem?_cons_succ, List.getElem?_nil, List.set_cons_zero, List.set_cons_succ, List.cons_append, List.nil_append, List.append_nil, Nat.sub_self, Nat.zero_add, Nat.reduceAdd, Nat.reduceSub, Nat.add_one_sub_one, List.replicate_zero, List.replicate_succ, Option.map_some, if_true, if_false, decide_true, decide_false, Bool.not_true, Bool.not_false, Bool.true_or, Bool.false_or, Bool.or_true, Bool.or_false, Bool.true_and, Bool.false_and, Bool.and_true, Bool.and_false, beq_self_eq_true, opAdd, opSub, opNeg, opLt, opLe, opGt, opGe, opIx, fLen, fAbs, fMax2, fMin2, fIsi, tyN, fList, fTuple, st_NoneType_bool, st_NoneType_int, st_NoneType_str, st_NoneType_tuple, st_NoneType_list, st_NoneType_dict, st_bool_bool, st_bool_int, st_bool_str, st_bool_tuple, st_bool_list, st_bool_dict, st_int_bool, st_int_int, st_int_str, st_int_tuple, st_int_list, st_int_dict, st_str_bool, st_str_int, st_str_str, st_str_tuple, st_str_list, st_str_dict, st_tuple_bool, st_tuple_int, st_tuple_str, st_tuple_tuple, st_tuple_list, st_tuple_dict, st_list_bool, st_list_int, st_list_str, st_list_tuple, st_list_list, st_list_dict, st_dict_bool, st_dict_int, st_dict_str, st_dict_tuple, st_dict_list, st_dict_dict, mul_ok, e1, e2, e3, e4, s1, s2, s3, ne_ii, cb, eq_bb]
  · have cb : (q.1 == 0) = false := beq_f c
    have e5 := over_at P Q h c
    have s5 := same_at (p.1 * q.2) (p.2 * q.1) h (Int.mul_ne_zero (by have := P.2.2.1; omega) c) (cb_bd P Q)
    simp only [frV] at e1 e2 e3 e4 e5 s1 s2 s3 s5 ⊢
    simp (discharger := omega) only [g__law_good, b__law_good, sSeq, sAsg, sIf, sRet, sRetN, sExpr, sNext, sPar, sPar3, sBk, sCt, sFor, sPut, gNm, gTp, gsCons, gsNil, xVar, xC, xOp, xUn, xCons, xNil, xArgs, xCall, xTup, xLst, xBox, boxM, xIf, xAnd, xOr, xNot, xB, xAndT, xOrT, xNotT, xAppend, xPop, xPopAt, xExtend, xSlL, xPart, xNoPart, iSeq, iRange1, iRange2, cYes, seqOf, listOf, isLstC, runDef, sBegin, List.map_cons, List.map_nil, List.length_cons, List.length_nil, List.getElem?_cons_zero, List.getElem?_cons_succ, List.getElem?_nil, List.set_cons_zero, List.set_cons_succ, List.cons_append, List.nil_append, List.append_nil, Nat.sub_self, Nat.zero_add, Nat.reduceAdd, Nat.reduceSub, Nat.add_one_sub_one, List.replicate_zero, List.replicate_succ, Option.map_some, if_true, if_false, decide_true, decide_false, Bool.not_true, Bool.not_false, Bool.true_or, Bool.false_or, Bool.or_true, Bool.or_false, Bool.true_and, Bool.false_and, Bool.and_true, Bool.and_false, beq_self_eq_true, opAdd, opSub, opNeg, opLt, opLe, opGt, opGe, opIx, fLen, fAbs, fMax2, fMin2, fIsi, tyN, fList, fTuple, st_NoneType_bool, st_NoneType_int, st_NoneType_str, st_NoneType_tuple, st_NoneType_list, st_NoneType_dict, st_bool_bool, st_bool_int, st_bool_str, st_bool_tuple, st_bool_list, st_bool_dict, st_int_bool, st_int_int, st_int_str, st_int_tuple, st_int_list, st_int_dict, st_str_bool, st_str_int, st_str_str, st_str_tuple, st_str_list, st_str_dict, st_tuple_bool, st_tuple_int, st_tuple_str, st_tuple_tuple, st_tuple_list, st_tuple_dict, st_list_bool, st_list_int, st_list_str, st_list_tuple, st_list_list, st_list_dict, st_dict_bool, st_dict_int, st_dict_str, st_dict_tuple, st_dict_list, st_dict_dict, mul_ok, e1, e2, e3, e4, e5, s1, s2, s3, s5, ne_ii, cb, eq_bb]
theorem dr_at (ds : List Int) (d : Nat) (h : MH) (e : h[d]? = some (.lst (ds.map .int))) (hd : Drawn ds) : ∃ p, Fine p ∧ g__law_drawn [.ref d] h = some (frV p, h.set d (.lst (ds.tail.map .int))) := by
  obtain ⟨n0, n1⟩ := hd.head
  have en := next_at ds d h e
  generalize ds.headD 0 = n at n0 n1 en
  generalize h.set d (.lst (ds.tail.map .int)) = h1 at en
  have nn : n * n ≤ 2147483629 * 2147483629 := Int.mul_le_mul (by omega) (by omega) n0 (by decide)
  have nn0 : 0 ≤ n * n := Int.mul_nonneg n0 n0
  have c1 : ∃ x : Int, atM [.int (n / 20 % 13), .int (n / 20), .int (n * n * 6), .int (n / 20 % 7 * 100000000000000000000)] (n % 4) = some (.int x) ∧ -12676506002282294014967032053 < x ∧ x < 12676506002282294014967032053 := by
    have h4 : n % 4 = 0 ∨ n % 4 = 1 ∨ n % 4 = 2 ∨ n % 4 = 3 := by omega
    rcases h4 with q | q | q | q <;> rw [q]
    · exact ⟨_, at_0, by omega, by omega⟩
    · exact ⟨_, at_1, by omega, by omega⟩
    · exact ⟨_, at_2, by omega, by omega⟩
    · exact ⟨_, at_3, by omega, by omega⟩
  obtain ⟨x, ex, x0, x1⟩ := c1
  have c2 : ∃ y : Int, atM [.int (n / 400 % 60), .int (n / 20), .int 0, .int (n / 20 * 1000000000)] (n / 4 % 4) = some (.int y) ∧ 0 ≤ y ∧ y < 1000000000000000000 := by
    have h4 : n / 4 % 4 = 0 ∨ n / 4 % 4 = 1 ∨ n / 4 % 4 = 2 ∨ n / 4 % 4 = 3 := by omega
    rcases h4 with q | q | q | q <;> rw [q]
    · exact ⟨_, at_0, by omega, by omega⟩
    · exact ⟨_, at_1, by omega, by omega⟩
    · exact ⟨_, at_2, by omega, by omega⟩
    · exact ⟨_, at_3, by omega, by omega⟩
  obtain ⟨y, ey, y0, y1⟩ := c2
  have c3 : ∃ z : Int, (z = 1 ∨ z = -1) ∧ atM [.int 1, .int (-1)] (n / 16 % 2) = some (.int z) := by
    have h2 : n / 16 % 2 = 0 ∨ n / 16 % 2 = 1 := by omega
    rcases h2 with q | q <;> rw [q]
    · exact ⟨1, .inl rfl, at_0⟩
    · exact ⟨-1, .inr rfl, at_1⟩
  obtain ⟨z, hz, ez⟩ := c3
  have pw : ∀ h', opPow h' (.int 10) (.int 20) = some (.int 100000000000000000000) := fun _ => rfl
  have pw9 : ∀ h', opPow h' (.int 10) (.int 9) = some (.int 1000000000) := fun _ => rfl
  have lo := low_at (x * z) (1 + y) h1 (by omega) (by omega)
  have zz : -1606938044258990275541962092341162602522202993782792835301376 < z ∧ z < 1606938044258990275541962092341162602522202993782792835301376 := by omega
  have xz : -1267650600228229401496703205376 < x * z ∧ x * z < 1267650600228229401496703205376 := by rcases hz with rfl | rfl <;> omega
  refine ⟨lowOf (x * z) (1 + y), low_fine _ _ xz.1 xz.2 (by omega) (by omega), ?_⟩
  simp (discharger := omega) only [g__law_drawn, b__law_drawn, sSeq, sAsg, sIf, sRet, sRetN, sExpr, sNext, sPar, sPar3, sBk, sCt, sFor, sPut, gNm, gTp, gsCons, gsNil, xVar, xC, xOp, xUn, xCons, xNil, xArgs, xCall, xTup, xLst, xBox, boxM, xIf, xAnd, xOr, xNot, xB, xAndT, xOrT, xNotT, xAppend, xPop, xPopAt, xExtend, xSlL, xPart, xNoPart, iSeq, iRange1, iRange2, cYes, seqOf, listOf, isLstC, runDef, sBegin, List.map_cons, List.map_nil, List.length_cons, List.length_nil, List.getElem?_cons_zero, List.getElem?_cons_succ, List.getElem?_nil, List.set_cons_zero, List.set_cons_succ, List.cons_append, List.nil_append, List.append_nil, Nat.sub_self, Nat.zero_add, Nat.reduceAdd, Nat.reduceSub, Nat.add_one_sub_one, List.replicate_zero, List.replicate_succ, Option.map_some, if_true, if_false, decide_true, decide_false, Bool.not_true, Bool.not_false, Bool.true_or, Bool.false_or, Bool.or_true, Bool.or_false, Bool.true_and, Bool.false_and, Bool.and_true, Bool.and_false, beq_self_eq_true, opAdd, opSub, opNeg, opLt, opLe, opGt, opGe, opIx, fLen, fAbs, fMax2, fMin2, fIsi, tyN, fList, fTuple, st_NoneType_bool, st_NoneType_int, st_NoneType_str, st_NoneType_tuple, st_NoneType_list, st_NoneType_dict, st_bool_bool, st_bool_int, st_bool_str, st_bool_tuple, st_bool_list, st_bool_dict, st_int_bool, st_int_int, st_int_str, st_int_tuple, st_int_list, st_int_dict, st_str_bool, st_str_int, st_str_str, st_str_tuple, st_str_list, st_str_dict, st_tuple_bool, st_tuple_int, st_tuple_str, st_tuple_tuple, st_tuple_list, st_tuple_dict, st_list_bool, st_list_int, st_list_str, st_list_tuple, st_list_list, st_list_dict, st_dict_bool, st_dict_int, st_dict_str, st_dict_tuple, st_dict_list, st_dict_dict, en, div_ok, mod_ok, mul_ok, ex, ey, ez, pw, pw9, lo]
theorem law_step (ns : List Int) (ds2 : List Int) (d2 : Drawn ds2) (i : Nat) (o3 o4 : Option MV) : ∃ x y : MV, B1_law [some (.scr ns), some (.ref 0), some (.int (i : Nat)), o3, o4] [.lst (ds2.map .int)]
    = some (.nx, [some (.scr ns), some (.ref 0), some (.int (i : Nat)), some x, some y], [.lst (ds2.tail.tail.map .int)]) := by
  obtain ⟨p, P, ep⟩ := dr_at ds2 0 [.lst (ds2.map .int)] rfl d2
  obtain ⟨q, Q, eq⟩ := dr_at ds2.tail 0 [.lst (ds2.tail.map .int)] rfl d2.tail
  simp only [List.set_cons_zero] at ep eq
  have g1 := good_at P Q [.lst (ds2.tail.tail.map .int)]
  have g2 := good_at Q P [.lst (ds2.tail.tail.map .int)]
  have g3 := good_at P P [.lst (ds2.tail.tail.map .int)]
  by_cases c : (i : Int) % 4 = 3
  · have cb : ((i : Int) % 4 == 3) = true := beq_t c
    exact ⟨frV p, frV p, by simp (discharger := omega) only [B1_law, sSeq, sAsg, sIf, sRet, sRetN, sExpr, sNext, sPar, sPar3, sBk, sCt, sFor, sPut, gNm, gTp, gsCons, gsNil, xVar, xC, xOp, xUn, xCons, xNil, xArgs, xCall, xTup, xLst, xBox, boxM, xIf, xAnd, xOr, xNot, xB, xAndT, xOrT, xNotT, xAppend, xPop, xPopAt, xExtend, xSlL, xPart, xNoPart, iSeq, iRange1, iRange2, cYes, seqOf, listOf, isLstC, runDef, sBegin, List.map_cons, List.map_nil, List.length_cons, List.length_nil, List.getElem?_cons_zero, List.getElem?_cons_succ, List.getElem?_nil, List.set_cons_zero, List.set_cons_succ, List.cons_append, List.nil_append, List.append_nil, Nat.sub_self, Nat.zero_add, Nat.reduceAdd, Nat.reduceSub, Nat.add_one_sub_one, List.replicate_zero, List.replicate_succ, Option.map_some, if_true, if_false, decide_true, decide_false, Bool.not_true, Bool.not_false, Bool.true_or, Bool.false_or, Bool.or_true, Bool.or_false, Bool.true_and, Bool.false_and, Bool.and_true, Bool.and_false, beq_self_eq_true, opAdd, opSub, opNeg, opLt, opLe, opGt, opGe, opIx, fLen, fAbs, fMax2, fMin2, fIsi, tyN, fList, fTuple, st_NoneType_bool, st_NoneType_int, st_NoneType_str, st_NoneType_tuple, st_NoneType_list, st_NoneType_dict, st_bool_bool, st_bool_int, st_bool_str, st_bool_tuple, st_bool_list, st_bool_dict, st_int_bool, st_int_int, st_int_str, st_int_tuple, st_int_list, st_int_dict, st_str_bool, st_str_int, st_str_str, st_str_tuple, st_str_list, st_str_dict, st_tuple_bool, st_tuple_int, st_tuple_str, st_tuple_tuple, st_tuple_list, st_tuple_dict, st_list_bool, st_list_int, st_list_str, st_list_tuple, st_list_list, st_list_dict, st_dict_bool, st_dict_int, st_dict_str, st_dict_tuple, st_dict_list, st_dict_dict, ep, eq, mod_ok, eq_ii, cb, g3]⟩
  · have cb : ((i : Int) % 4 == 3) = false := beq_f c
    exact ⟨frV p, frV q, by simp (discharger := omega) only [B1_law, sSeq, sAsg, sIf, sRet, sRetN, sExpr, sNext, sPar, sPar3, sBk, sCt, sFor, sPut, gNm, gTp, gsCons, gsNil, xVar, xC, xOp, xUn, xCons, xNil, xArgs, xCall, xTup, xLst, xBox, boxM, xIf, xAnd, xOr, xNot, xB, xAndT, xOrT, xNotT, xAppend, xPop, xPopAt, xExtend, xSlL, xPart, xNoPart, iSeq, iRange1, iRange2, cYes, seqOf, listOf, isLstC, runDef, sBegin, List.map_cons, List.map_nil, List.length_cons, List.length_nil, List.getElem?_cons_zero, List.getElem?_cons_succ, List.getElem?_nil, List.set_cons_zero, List.set_cons_succ, List.cons_append, List.nil_append, List.append_nil, Nat.sub_self, Nat.zero_add, Nat.reduceAdd, Nat.reduceSub, Nat.add_one_sub_one, List.replicate_zero, List.replicate_succ, Option.map_some, if_true, if_false, decide_true, decide_false, Bool.not_true, Bool.not_false, Bool.true_or, Bool.false_or, Bool.or_true, Bool.or_false, Bool.true_and, Bool.false_and, Bool.and_true, Bool.and_false, beq_self_eq_true, opAdd, opSub, opNeg, opLt, opLe, opGt, opGe, opIx, fLen, fAbs, fMax2, fMin2, fIsi, tyN, fList, fTuple, st_NoneType_bool, st_NoneType_int, st_NoneType_str, st_NoneType_tuple, st_NoneType_list, st_NoneType_dict, st_bool_bool, st_bool_int, st_bool_str, st_bool_tuple, st_bool_list, st_bool_dict, st_int_bool, st_int_int, st_int_str, st_int_tuple, st_int_list, st_int_dict, st_str_bool, st_str_int, st_str_str, st_str_tuple, st_str_list, st_str_dict, st_tuple_bool, st_tuple_int, st_tuple_str, st_tuple_tuple, st_tuple_list, st_tuple_dict, st_list_bool, st_list_int, st_list_str, st_list_tuple, st_list_list, st_list_dict, st_dict_bool, st_dict_int, st_dict_str, st_dict_tuple, st_dict_list, st_dict_dict, ep, eq, mod_ok, eq_ii, cb, g1, g2, g3]⟩
theorem law_true (ns : List Int) (hl : ns.length ≤ 63) : ∃ h', g_law [.scr ns] [] = some (.bl true, h') := by
  obtain ⟨ds, ed, hd, dl⟩ := draws_at ns hl []
  obtain ⟨s', h', e, ds2, o2, o3, o4, rfl, rfl, d2⟩ := forGo_run (g := gNm 2) (b := B1_law)
    (fun i s h => ∃ ds2 o2 o3 o4, s = [some (.scr ns), some (.ref 0), o2, o3, o4] ∧ h = [.lst (ds2.map .int)] ∧ Drawn ds2)
    (rngM 0 (3 + ((ds.length : Nat) : Int) / 12).toNat) 0 [some (.scr ns), some (.ref 0), none, none, none] [.lst (ds.map .int)] ⟨ds, none, none, none, rfl, rfl, hd⟩ (by
    rintro i x s h ex ⟨ds2, o2, o3, o4, rfl, rfl, d2⟩
    obtain ⟨rfl, hi⟩ := rng_at ex
    rw [Int.zero_add]
    obtain ⟨x, y, e⟩ := law_step ns ds2 d2 i o3 o4
    exact ⟨_, _, .nx, [some (.scr ns), some (.ref 0), some (.int (i : Nat)), some x, some y], _, rfl, e, .inl rfl, ds2.tail.tail, _, _, _, rfl, rfl, d2.tail.tail⟩)
  have rg : (-(2 : Int) ^ 62 ≤ 3 + ((ds.length : Nat) : Int) / 12 ∧ 3 + ((ds.length : Nat) : Int) / 12 < 2 ^ 62) := by omega
  simp only [List.length_nil, List.nil_append] at ed
  refine ⟨_, run_rt (b := b_law) (h1 := [.lst (ds2.map .int)]) (s := [some (.scr ns), some (.ref 0), o2, o3, o4]) ((seq_nx (s1 := [some (.scr ns), some (.ref 0), none, none, none]) (h1 := [.lst (ds.map .int)]) ?_).trans ((seq_nx ((for_at ?_).trans e)).trans ?_))⟩
  · simp only [sSeq, sAsg, sIf, sRet, sRetN, sExpr, sNext, sPar, sPar3, sBk, sCt, sFor, sPut, gNm, gTp, gsCons, gsNil, xVar, xC, xOp, xUn, xCons, xNil, xArgs, xCall, xTup, xLst, xBox, boxM, xIf, xAnd, xOr, xNot, xB, xAndT, xOrT, xNotT, xAppend, xPop, xPopAt, xExtend, xSlL, xPart, xNoPart, iSeq, iRange1, iRange2, cYes, seqOf, listOf, isLstC, runDef, sBegin, List.map_cons, List.map_nil, List.length_cons, List.length_nil, List.getElem?_cons_zero, List.getElem?_cons_succ, List.getElem?_nil, List.set_cons_zero, List.set_cons_succ, List.cons_append, List.nil_append, List.append_nil, Nat.sub_self, Nat.zero_add, Nat.reduceAdd, Nat.reduceSub, Nat.add_one_sub_one, List.replicate_zero, List.replicate_succ, Option.map_some, if_true, if_false, decide_true, decide_false, Bool.not_true, Bool.not_false, Bool.true_or, Bool.false_or, Bool.or_true, Bool.or_false, Bool.true_and, Bool.false_and, Bool.and_true, Bool.and_false, beq_self_eq_true, opAdd, opSub, opNeg, opLt, opLe, opGt, opGe, opIx, fLen, fAbs, fMax2, fMin2, fIsi, tyN, fList, fTuple, st_NoneType_bool, st_NoneType_int, st_NoneType_str, st_NoneType_tuple, st_NoneType_list, st_NoneType_dict, st_bool_bool, st_bool_int, st_bool_str, st_bool_tuple, st_bool_list, st_bool_dict, st_int_bool, st_int_int, st_int_str, st_int_tuple, st_int_list, st_int_dict, st_str_bool, st_str_int, st_str_str, st_str_tuple, st_str_list, st_str_dict, st_tuple_bool, st_tuple_int, st_tuple_str, st_tuple_tuple, st_tuple_list, st_tuple_dict, st_list_bool, st_list_int, st_list_str, st_list_tuple, st_list_list, st_list_dict, st_dict_bool, st_dict_int, st_dict_str, st_dict_tuple, st_dict_list, st_dict_dict, ed]
  · simp (discharger := omega) only [sSeq, sAsg, sIf, sRet, sRetN, sExpr, sNext, sPar, sPar3, sBk, sCt, sFor, sPut, gNm, gTp, gsCons, gsNil, xVar, xC, xOp, xUn, xCons, xNil, xArgs, xCall, xTup, xLst, xBox, boxM, xIf, xAnd, xOr, xNot, xB, xAndT, xOrT, xNotT, xAppend, xPop, xPopAt, xExtend, xSlL, xPart, xNoPart, iSeq, iRange1, iRange2, cYes, seqOf, listOf, isLstC, runDef, sBegin, List.map_cons, List.map_nil, List.length_cons, List.length_nil, List.getElem?_cons_zero, List.getElem?_cons_succ, List.getElem?_nil, List.set_cons_zero, List.set_cons_succ, List.cons_append, List.nil_append, List.append_nil, Nat.sub_self, Nat.zero_add, Nat.reduceAdd, Nat.reduceSub, Nat.add_one_sub_one, List.replicate_zero, List.replicate_succ, Option.map_some, if_true, if_false, decide_true, decide_false, Bool.not_true, Bool.not_false, Bool.true_or, Bool.false_or, Bool.or_true, Bool.or_false, Bool.true_and, Bool.false_and, Bool.and_true, Bool.and_false, beq_self_eq_true, opAdd, opSub, opNeg, opLt, opLe, opGt, opGe, opIx, fLen, fAbs, fMax2, fMin2, fIsi, tyN, fList, fTuple, st_NoneType_bool, st_NoneType_int, st_NoneType_str, st_NoneType_tuple, st_NoneType_list, st_NoneType_dict, st_bool_bool, st_bool_int, st_bool_str, st_bool_tuple, st_bool_list, st_bool_dict, st_int_bool, st_int_int, st_int_str, st_int_tuple, st_int_list, st_int_dict, st_str_bool, st_str_int, st_str_str, st_str_tuple, st_str_list, st_str_dict, st_tuple_bool, st_tuple_int, st_tuple_str, st_tuple_tuple, st_tuple_list, st_tuple_dict, st_list_bool, st_list_int, st_list_str, st_list_tuple, st_list_list, st_list_dict, st_dict_bool, st_dict_int, st_dict_str, st_dict_tuple, st_dict_list, st_dict_dict, List.length_map, div_ok, rg, and_self, if_true]
  · simp only [sSeq, sAsg, sIf, sRet, sRetN, sExpr, sNext, sPar, sPar3, sBk, sCt, sFor, sPut, gNm, gTp, gsCons, gsNil, xVar, xC, xOp, xUn, xCons, xNil, xArgs, xCall, xTup, xLst, xBox, boxM, xIf, xAnd, xOr, xNot, xB, xAndT, xOrT, xNotT, xAppend, xPop, xPopAt, xExtend, xSlL, xPart, xNoPart, iSeq, iRange1, iRange2, cYes, seqOf, listOf, isLstC, runDef, sBegin, List.map_cons, List.map_nil, List.length_cons, List.length_nil, List.getElem?_cons_zero, List.getElem?_cons_succ, List.getElem?_nil, List.set_cons_zero, List.set_cons_succ, List.cons_append, List.nil_append, List.append_nil, Nat.sub_self, Nat.zero_add, Nat.reduceAdd, Nat.reduceSub, Nat.add_one_sub_one, List.replicate_zero, List.replicate_succ, Option.map_some, if_true, if_false, decide_true, decide_false, Bool.not_true, Bool.not_false, Bool.true_or, Bool.false_or, Bool.or_true, Bool.or_false, Bool.true_and, Bool.false_and, Bool.and_true, Bool.and_false, beq_self_eq_true, opAdd, opSub, opNeg, opLt, opLe, opGt, opGe, opIx, fLen, fAbs, fMax2, fMin2, fIsi, tyN, fList, fTuple, st_NoneType_bool, st_NoneType_int, st_NoneType_str, st_NoneType_tuple, st_NoneType_list, st_NoneType_dict, st_bool_bool, st_bool_int, st_bool_str, st_bool_tuple, st_bool_list, st_bool_dict, st_int_bool, st_int_int, st_int_str, st_int_tuple, st_int_list, st_int_dict, st_str_bool, st_str_int, st_str_str, st_str_tuple, st_str_list, st_str_dict, st_tuple_bool, st_tuple_int, st_tuple_str, st_tuple_tuple, st_tuple_list, st_tuple_dict, st_list_bool, st_list_int, st_list_str, st_list_tuple, st_list_list, st_list_dict, st_dict_bool, st_dict_int, st_dict_str, st_dict_tuple, st_dict_list, st_dict_dict]

end
end Ew
end

section
set_option Elab.async false
set_option linter.all false
set_option maxRecDepth 100000
set_option maxHeartbeats 4000000
/-! the bridge of law_k50_reckoned_with_fractions -/
namespace Ew
open PySem PySem.Spec PyProof.Rows L2
def topS (i : Nat) : Stmt := PySem.Challenge.pw_evenwalls_k50_reckoned_with_fractions.main.body.getD i (.Pass ⟨0, 0, 0, 0⟩)
abbrev s_common : Stmt := topS 1
theorem sc_common : FnScope ["a", "b"] ["a", "b"] (defScope s_common) := ⟨rfl, rfl, rfl, by decide +kernel, rfl, by decide +kernel, by decide +kernel⟩
abbrev s_fraction : Stmt := topS 2
theorem sc_fraction : FnScope ["a", "b", "divisor"] ["a", "b"] (defScope s_fraction) := ⟨rfl, rfl, rfl, by decide +kernel, rfl, by decide +kernel, by decide +kernel⟩
abbrev s_added : Stmt := topS 3
theorem sc_added : FnScope ["x", "y"] ["x", "y"] (defScope s_added) := ⟨rfl, rfl, rfl, by decide +kernel, rfl, by decide +kernel, by decide +kernel⟩
abbrev s_less : Stmt := topS 4
theorem sc_less : FnScope ["x", "y"] ["x", "y"] (defScope s_less) := ⟨rfl, rfl, rfl, by decide +kernel, rfl, by decide +kernel, by decide +kernel⟩
abbrev s_times : Stmt := topS 5
theorem sc_times : FnScope ["x", "y"] ["x", "y"] (defScope s_times) := ⟨rfl, rfl, rfl, by decide +kernel, rfl, by decide +kernel, by decide +kernel⟩
abbrev s_over : Stmt := topS 6
theorem sc_over : FnScope ["x", "y"] ["x", "y"] (defScope s_over) := ⟨rfl, rfl, rfl, by decide +kernel, rfl, by decide +kernel, by decide +kernel⟩
abbrev s_is_below : Stmt := topS 7
theorem sc_is_below : FnScope ["x", "y"] ["x", "y"] (defScope s_is_below) := ⟨rfl, rfl, rfl, by decide +kernel, rfl, by decide +kernel, by decide +kernel⟩
abbrev s__law_mixed : Stmt := topS 9
theorem sc__law_mixed : FnScope ["_law_cell", "_law_k", "_law_number"] ["_law_cell", "_law_k"] (defScope s__law_mixed) := ⟨rfl, rfl, rfl, by decide +kernel, rfl, by decide +kernel, by decide +kernel⟩
abbrev s__law_draws : Stmt := topS 10
theorem sc__law_draws : FnScope ["_law_script", "_law_drawn_here", "_law_k", "_law_cell", "_law_j"] ["_law_script"] (defScope s__law_draws) := ⟨rfl, rfl, rfl, by decide +kernel, rfl, by decide +kernel, by decide +kernel⟩
abbrev s__law_next : Stmt := topS 11
theorem sc__law_next : FnScope ["_law_drawn_here"] ["_law_drawn_here"] (defScope s__law_next) := ⟨rfl, rfl, rfl, by decide +kernel, rfl, by decide +kernel, by decide +kernel⟩
abbrev s__law_low : Stmt := topS 12
theorem sc__law_low : FnScope ["_law_a", "_law_b", "_law_m", "_law_n"] ["_law_a", "_law_b"] (defScope s__law_low) := ⟨rfl, rfl, rfl, by decide +kernel, rfl, by decide +kernel, by decide +kernel⟩
abbrev s__law_drawn : Stmt := topS 13
theorem sc__law_drawn : FnScope ["_law_drawn_here", "_law_number", "_law_a", "_law_b"] ["_law_drawn_here"] (defScope s__law_drawn) := ⟨rfl, rfl, rfl, by decide +kernel, rfl, by decide +kernel, by decide +kernel⟩
abbrev s__law_same : Stmt := topS 14
theorem sc__law_same : FnScope ["_law_found", "_law_a", "_law_b", "_law_part"] ["_law_found", "_law_a", "_law_b"] (defScope s__law_same) := ⟨rfl, rfl, rfl, by decide +kernel, rfl, by decide +kernel, by decide +kernel⟩
abbrev s__law_good : Stmt := topS 15
theorem sc__law_good : FnScope ["_law_x", "_law_y", "_law_a", "_law_b", "_law_c", "_law_d", "_law_found"] ["_law_x", "_law_y"] (defScope s__law_good) := ⟨rfl, rfl, rfl, by decide +kernel, rfl, by decide +kernel, by decide +kernel⟩
abbrev s_law : Stmt := topS 16
theorem sc_law : FnScope ["_law_script", "_law_drawn_here", "_law_k", "_law_x", "_law_y"] ["_law_script"] (defScope s_law) := ⟨rfl, rfl, rfl, by decide +kernel, rfl, by decide +kernel, by decide +kernel⟩
section
variable {P : Program} {w : World} {K : PySem.W.Frag} {mg : Str → Option Value} {base : Heap}
theorem ok_common {f : Addr} {fd : FuncData} (F : L2.Fun K "common" "common" s_common f fd) (hg : mg "common" = some (.ref f))  : Cal P w K mg base "common" 2 (spM K 2 g_common) 1 :=
  def_ok (b := b_common) F hg sc_common (fun _ _ _ _ _ _ us hl => match us, hl with | [_, _], _ => rfl) fun cdv A outer s H E hr =>
    (ms_cons (ms_while (ta := W1_common) (x := B1_common) (c_gt (me_var (i := 1)) me_int).2 (ms_one (ms_par sc_common.nd (me_var (i := 1)) (me_mod (me_var (i := 0)) (me_var (i := 1))))))
    (ms_one (ms_ret (me_var (i := 0)))))
theorem ok_fraction {f : Addr} {fd : FuncData} (F : L2.Fun K "fraction" "fraction" s_fraction f fd) (hg : mg "fraction" = some (.ref f)) (C_common : Cal P w K mg base "common" 2 (spM K 2 g_common) 1) (m_abs : mg "abs" = none) : Cal P w K mg base "fraction" 2 (spM K 2 g_fraction) 2 :=
  def_ok (b := b_fraction) F hg sc_fraction (fun _ _ _ _ _ _ us hl => match us, hl with | [_, _], _ => rfl) fun cdv A outer s H E hr =>
    (ms_cons (ms_if (c_lt (me_var (i := 1)) me_int).2 (ms_cons (ms_asg (me_sub me_int (me_var (i := 0))) (mg_nm (n := 0) sc_fraction.nd))
    (ms_one (ms_asg (me_sub me_int (me_var (i := 1))) (mg_nm (n := 1) sc_fraction.nd)))) ms_nil)
    (ms_cons (ms_asg (me_call C_common hr (ma_cons (me_abs m_abs (ma_cons (me_var (i := 0)) ma_nil)) (ma_cons (me_var (i := 1)) ma_nil))) (mg_nm (n := 2) sc_fraction.nd))
    (ms_one (ms_ret (me_tup (ma_cons (me_div (me_var (i := 0)) (me_var (i := 2))) (ma_cons (me_div (me_var (i := 1)) (me_var (i := 2))) ma_nil)))))))
theorem ok_added {f : Addr} {fd : FuncData} (F : L2.Fun K "added" "added" s_added f fd) (hg : mg "added" = some (.ref f)) (C_fraction : Cal P w K mg base "fraction" 2 (spM K 2 g_fraction) 2) : Cal P w K mg base "added" 2 (spM K 2 g_added) 3 :=
  def_ok (b := b_added) F hg sc_added (fun _ _ _ _ _ _ us hl => match us, hl with | [_, _], _ => rfl) fun cdv A outer s H E hr =>
    (ms_one (ms_ret (me_call C_fraction hr (ma_cons (me_add (me_mul (me_ix hr (me_var (i := 0)) me_int) (me_ix hr (me_var (i := 1)) me_int)) (me_mul (me_ix hr (me_var (i := 1)) me_int) (me_ix hr (me_var (i := 0)) me_int))) (ma_cons (me_mul (me_ix hr (me_var (i := 0)) me_int) (me_ix hr (me_var (i := 1)) me_int)) ma_nil)))))
theorem ok_less {f : Addr} {fd : FuncData} (F : L2.Fun K "less" "less" s_less f fd) (hg : mg "less" = some (.ref f)) (C_fraction : Cal P w K mg base "fraction" 2 (spM K 2 g_fraction) 2) : Cal P w K mg base "less" 2 (spM K 2 g_less) 3 :=
  def_ok (b := b_less) F hg sc_less (fun _ _ _ _ _ _ us hl => match us, hl with | [_, _], _ => rfl) fun cdv A outer s H E hr =>
    (ms_one (ms_ret (me_call C_fraction hr (ma_cons (me_sub (me_mul (me_ix hr (me_var (i := 0)) me_int) (me_ix hr (me_var (i := 1)) me_int)) (me_mul (me_ix hr (me_var (i := 1)) me_int) (me_ix hr (me_var (i := 0)) me_int))) (ma_cons (me_mul (me_ix hr (me_var (i := 0)) me_int) (me_ix hr (me_var (i := 1)) me_int)) ma_nil)))))
theorem ok_times {f : Addr} {fd : FuncData} (F : L2.Fun K "times" "times" s_times f fd) (hg : mg "times" = some (.ref f)) (C_fraction : Cal P w K mg base "fraction" 2 (spM K 2 g_fraction) 2) : Cal P w K mg base "times" 2 (spM K 2 g_times) 3 :=
  def_ok (b := b_times) F hg sc_times (fun _ _ _ _ _ _ us hl => match us, hl with | [_, _], _ => rfl) fun cdv A outer s H E hr =>
    (ms_one (ms_ret (me_call C_fraction hr (ma_cons (me_mul (me_ix hr (me_var (i := 0)) me_int) (me_ix hr (me_var (i := 1)) me_int)) (ma_cons (me_mul (me_ix hr (me_var (i := 0)) me_int) (me_ix hr (me_var (i := 1)) me_int)) ma_nil)))))
theorem ok_over {f : Addr} {fd : FuncData} (F : L2.Fun K "over" "over" s_over f fd) (hg : mg "over" = some (.ref f)) (C_fraction : Cal P w K mg base "fraction" 2 (spM K 2 g_fraction) 2) : Cal P w K mg base "over" 2 (spM K 2 g_over) 3 :=
  def_ok (b := b_over) F hg sc_over (fun _ _ _ _ _ _ us hl => match us, hl with | [_, _], _ => rfl) fun cdv A outer s H E hr =>
    (ms_one (ms_ret (me_call C_fraction hr (ma_cons (me_mul (me_ix hr (me_var (i := 0)) me_int) (me_ix hr (me_var (i := 1)) me_int)) (ma_cons (me_mul (me_ix hr (me_var (i := 0)) me_int) (me_ix hr (me_var (i := 1)) me_int)) ma_nil)))))
theorem ok_is_below {f : Addr} {fd : FuncData} (F : L2.Fun K "is_below" "is_below" s_is_below f fd) (hg : mg "is_below" = some (.ref f))  : Cal P w K mg base "is_below" 2 (spM K 2 g_is_below) 1 :=
  def_ok (b := b_is_below) F hg sc_is_below (fun _ _ _ _ _ _ us hl => match us, hl with | [_, _], _ => rfl) fun cdv A outer s H E hr =>
    (ms_one (ms_ret (c_lt (me_mul (me_ix hr (me_var (i := 0)) me_int) (me_ix hr (me_var (i := 1)) me_int)) (me_mul (me_ix hr (me_var (i := 1)) me_int) (me_ix hr (me_var (i := 0)) me_int))).1))
theorem ok__law_mixed {f : Addr} {fd : FuncData} (F : L2.Fun K "_law_mixed" "_law_mixed" s__law_mixed f fd) (hg : mg "_law_mixed" = some (.ref f))  : Cal P w K mg base "_law_mixed" 2 (spM K 2 g__law_mixed) 1 :=
  def_ok (b := b__law_mixed) F hg sc__law_mixed (fun _ _ _ _ _ _ us hl => match us, hl with | [_, _], _ => rfl) fun cdv A outer s H E hr =>
    (ms_cons (ms_asg (me_mod (me_add (me_add (me_mul (me_mod (me_var (i := 0)) me_int) me_int) (me_mul (me_mul me_int (me_var (i := 1))) (me_var (i := 1)))) me_int) me_int) (mg_nm (n := 2) sc__law_mixed.nd))
    (ms_one (ms_ret (me_mod (me_mul (me_var (i := 2)) (me_var (i := 2))) me_int))))
theorem ok__law_draws {f : Addr} {fd : FuncData} (F : L2.Fun K "_law_draws" "_law_draws" s__law_draws f fd) (hg : mg "_law_draws" = some (.ref f)) (C__law_mixed : Cal P w K mg base "_law_mixed" 2 (spM K 2 g__law_mixed) 1) (m_range : mg "range" = none) (m_min : mg "min" = none) (m_len : mg "len" = none) (m_abs : mg "abs" = none) : Cal P w K mg base "_law_draws" 1 (spM K 1 g__law_draws) 2 :=
  def_ok (b := b__law_draws) F hg sc__law_draws (fun _ _ _ _ _ _ us hl => match us, hl with | [_], _ => rfl) fun cdv A outer s H E hr =>
    (ms_cons (ms_asg (me_box (mf_lst ma_nil)) (mg_nm (n := 1) sc__law_draws.nd))
    (ms_cons (ms_for (x := B1__law_draws) (mi_range1 m_range (me_min2 m_min (ma_cons (me_len m_len (ma_cons (me_var (i := 0)) ma_nil)) (ma_cons me_int ma_nil)))) (mg_nm (n := 2) sc__law_draws.nd) (ms_cons (ms_asg (me_abs m_abs (ma_cons (me_ix hr (me_var (i := 0)) (me_var (i := 2))) ma_nil)) (mg_nm (n := 3) sc__law_draws.nd))
    (ms_cons (ms_if (c_lt (me_var (i := 3)) (me_pow me_int me_int)).2 (ms_one (ms_for (x := B2__law_draws) (mi_range1 m_range me_int) (mg_nm (n := 4) sc__law_draws.nd) (ms_one (ms_expr (me_append (me_var (i := 1)) (me_call C__law_mixed hr (ma_cons (me_call C__law_mixed hr (ma_cons (me_var (i := 3)) (ma_cons (me_add (me_mul me_int (me_var (i := 4))) me_int) ma_nil))) (ma_cons (me_add (me_add (me_var (i := 4)) (me_var (i := 2))) me_int) ma_nil)))))))) ms_nil)
    (ms_cons (ms_while (ta := W3__law_draws) (x := B3__law_draws) (PW.pt (mw_and (c_ge (me_var (i := 3)) (me_pow me_int me_int)).2 (mw_and1 (c_lt (me_len m_len (ma_cons (me_var (i := 1)) ma_nil)) me_int).2))) (ms_cons (ms_expr (me_append (me_var (i := 1)) (me_mod (me_var (i := 3)) me_int)))
    (ms_one (ms_asg (me_div (me_var (i := 3)) me_int) (mg_nm (n := 3) sc__law_draws.nd)))))
    (ms_one (ms_if (c_ge (me_var (i := 3)) me_int).2 (ms_one (ms_expr (me_append (me_var (i := 1)) (me_mod (me_var (i := 3)) me_int)))) ms_nil))))))
    (ms_one (ms_ret (me_var (i := 1))))))
theorem ok__law_next {f : Addr} {fd : FuncData} (F : L2.Fun K "_law_next" "_law_next" s__law_next f fd) (hg : mg "_law_next" = some (.ref f))  : Cal P w K mg base "_law_next" 1 (spM K 1 g__law_next) 1 :=
  def_ok (b := b__law_next) F hg sc__law_next (fun _ _ _ _ _ _ us hl => match us, hl with | [_], _ => rfl) fun cdv A outer s H E hr =>
    (ms_cons (ms_if (c_eq hr (me_var (i := 0)) (mf_lst ma_nil).me).2 (ms_one (ms_ret me_int)) ms_nil)
    (ms_one (ms_ret (me_popAt (me_var (i := 0)) me_int))))
theorem ok__law_low {f : Addr} {fd : FuncData} (F : L2.Fun K "_law_low" "_law_low" s__law_low f fd) (hg : mg "_law_low" = some (.ref f)) (m_abs : mg "abs" = none) : Cal P w K mg base "_law_low" 2 (spM K 2 g__law_low) 1 :=
  def_ok (b := b__law_low) F hg sc__law_low (fun _ _ _ _ _ _ us hl => match us, hl with | [_, _], _ => rfl) fun cdv A outer s H E hr =>
    (ms_cons (ms_par sc__law_low.nd (me_abs m_abs (ma_cons (me_var (i := 0)) ma_nil)) (me_var (i := 1)))
    (ms_cons (ms_while (ta := W1__law_low) (x := B1__law_low) (c_gt (me_var (i := 3)) me_int).2 (ms_one (ms_par sc__law_low.nd (me_var (i := 3)) (me_mod (me_var (i := 2)) (me_var (i := 3))))))
    (ms_one (ms_ret (me_tup (ma_cons (me_div (me_var (i := 0)) (me_var (i := 2))) (ma_cons (me_div (me_var (i := 1)) (me_var (i := 2))) ma_nil)))))))
theorem ok__law_drawn {f : Addr} {fd : FuncData} (F : L2.Fun K "_law_drawn" "_law_drawn" s__law_drawn f fd) (hg : mg "_law_drawn" = some (.ref f)) (C__law_next : Cal P w K mg base "_law_next" 1 (spM K 1 g__law_next) 1) (C__law_low : Cal P w K mg base "_law_low" 2 (spM K 2 g__law_low) 1) : Cal P w K mg base "_law_drawn" 1 (spM K 1 g__law_drawn) 2 :=
  def_ok (b := b__law_drawn) F hg sc__law_drawn (fun _ _ _ _ _ _ us hl => match us, hl with | [_], _ => rfl) fun cdv A outer s H E hr =>
    (ms_cons (ms_asg (me_call C__law_next hr (ma_cons (me_var (i := 0)) ma_nil)) (mg_nm (n := 1) sc__law_drawn.nd))
    (ms_cons (ms_asg (me_ix hr (mf_lst (ma_cons (me_mod (me_div (me_var (i := 1)) me_int) me_int) (ma_cons (me_div (me_var (i := 1)) me_int) (ma_cons (me_mul (me_mul (me_var (i := 1)) (me_var (i := 1))) me_int) (ma_cons (me_mul (me_mod (me_div (me_var (i := 1)) me_int) me_int) (me_pow me_int me_int)) ma_nil))))).me (me_mod (me_var (i := 1)) me_int)) (mg_nm (n := 2) sc__law_drawn.nd))
    (ms_cons (ms_asg (me_add me_int (me_ix hr (mf_lst (ma_cons (me_mod (me_div (me_var (i := 1)) me_int) me_int) (ma_cons (me_div (me_var (i := 1)) me_int) (ma_cons me_int (ma_cons (me_mul (me_div (me_var (i := 1)) me_int) (me_pow me_int me_int)) ma_nil))))).me (me_mod (me_div (me_var (i := 1)) me_int) me_int))) (mg_nm (n := 3) sc__law_drawn.nd))
    (ms_one (ms_ret (me_call C__law_low hr (ma_cons (me_mul (me_var (i := 2)) (me_ix hr (mf_lst (ma_cons me_int (ma_cons (me_neg me_int) ma_nil))).me (me_mod (me_div (me_var (i := 1)) me_int) me_int))) (ma_cons (me_var (i := 3)) ma_nil))))))))
theorem ok__law_same {f : Addr} {fd : FuncData} (F : L2.Fun K "_law_same" "_law_same" s__law_same f fd) (hg : mg "_law_same" = some (.ref f)) (C__law_low : Cal P w K mg base "_law_low" 2 (spM K 2 g__law_low) 1) (m_isinstance : mg "isinstance" = none) (m_tuple : mg "tuple" = none) (m_bool : mg "bool" = none) (m_int : mg "int" = none) : Cal P w K mg base "_law_same" 3 (spM K 3 g__law_same) 2 :=
  def_ok (b := b__law_same) F hg sc__law_same (fun _ _ _ _ _ _ us hl => match us, hl with | [_, _, _], _ => rfl) fun cdv A outer s H E hr =>
    (ms_cons (ms_if (c_lt (me_var (i := 2)) me_int).2 (ms_one (ms_par sc__law_same.nd (me_sub me_int (me_var (i := 1))) (me_sub me_int (me_var (i := 2))))) ms_nil)
    (ms_cons (ms_if (PW.pt (mw_or (mt_not (mt_val (me_isi (tn := "tuple") m_isinstance (me_var (i := 0)) m_tuple (by decide +kernel) (by decide +kernel)))) (mw_or1 (c_ne hr (me_var (i := 0)) (me_call C__law_low hr (ma_cons (me_var (i := 1)) (ma_cons (me_var (i := 2)) ma_nil)))).2))) (ms_one (ms_ret me_bl)) ms_nil)
    (ms_cons (ms_for (x := B1__law_same) (mi_seq (me_var (i := 0))) (mg_nm (n := 3) sc__law_same.nd) (ms_one (ms_if (PW.pt (mw_or (mt_not (mt_val (me_isi (tn := "int") m_isinstance (me_var (i := 3)) m_int (by decide +kernel) (by decide +kernel)))) (mw_or1 (mt_val (me_isi (tn := "bool") m_isinstance (me_var (i := 3)) m_bool (by decide +kernel) (by decide +kernel)))))) (ms_one (ms_ret me_bl)) ms_nil)))
    (ms_one (ms_ret me_bl)))))
theorem ok__law_good {f : Addr} {fd : FuncData} (F : L2.Fun K "_law_good" "_law_good" s__law_good f fd) (hg : mg "_law_good" = some (.ref f)) (C_less : Cal P w K mg base "less" 2 (spM K 2 g_less) 3) (C__law_same : Cal P w K mg base "_law_same" 3 (spM K 3 g__law_same) 2) (C_added : Cal P w K mg base "added" 2 (spM K 2 g_added) 3) (C_times : Cal P w K mg base "times" 2 (spM K 2 g_times) 3) (C_over : Cal P w K mg base "over" 2 (spM K 2 g_over) 3) (C_is_below : Cal P w K mg base "is_below" 2 (spM K 2 g_is_below) 1) (m_isinstance : mg "isinstance" = none) (m_bool : mg "bool" = none) : Cal P w K mg base "_law_good" 2 (spM K 2 g__law_good) 4 :=
  def_ok (b := b__law_good) F hg sc__law_good (fun _ _ _ _ _ _ us hl => match us, hl with | [_, _], _ => rfl) fun cdv A outer s H E hr =>
    (ms_cons (ms_asg (me_var (i := 0)) (mg_tup (mgs_cons (mg_nm (n := 2) sc__law_good.nd) (mgs_cons (mg_nm (n := 3) sc__law_good.nd) mgs_nil))))
    (ms_cons (ms_asg (me_var (i := 1)) (mg_tup (mgs_cons (mg_nm (n := 4) sc__law_good.nd) (mgs_cons (mg_nm (n := 5) sc__law_good.nd) mgs_nil))))
    (ms_cons (ms_if (PW.pt (mw_or (mt_not (mt_val (me_call C__law_same hr (ma_cons (me_call C_added hr (ma_cons (me_var (i := 0)) (ma_cons (me_var (i := 1)) ma_nil))) (ma_cons (me_add (me_mul (me_var (i := 2)) (me_var (i := 5))) (me_mul (me_var (i := 4)) (me_var (i := 3)))) (ma_cons (me_mul (me_var (i := 3)) (me_var (i := 5))) ma_nil)))))) (mw_or1 (mt_not (mt_val (me_call C__law_same hr (ma_cons (me_call C_less hr (ma_cons (me_var (i := 0)) (ma_cons (me_var (i := 1)) ma_nil))) (ma_cons (me_sub (me_mul (me_var (i := 2)) (me_var (i := 5))) (me_mul (me_var (i := 4)) (me_var (i := 3)))) (ma_cons (me_mul (me_var (i := 3)) (me_var (i := 5))) ma_nil))))))))) (ms_one (ms_ret me_bl)) ms_nil)
    (ms_cons (ms_if (mt_not (mt_val (me_call C__law_same hr (ma_cons (me_call C_times hr (ma_cons (me_var (i := 0)) (ma_cons (me_var (i := 1)) ma_nil))) (ma_cons (me_mul (me_var (i := 2)) (me_var (i := 4))) (ma_cons (me_mul (me_var (i := 3)) (me_var (i := 5))) ma_nil)))))) (ms_one (ms_ret me_bl)) ms_nil)
    (ms_cons (ms_if (PW.pt (mw_and (c_ne hr (me_var (i := 4)) me_int).2 (mw_and1 (mt_not (mt_val (me_call C__law_same hr (ma_cons (me_call C_over hr (ma_cons (me_var (i := 0)) (ma_cons (me_var (i := 1)) ma_nil))) (ma_cons (me_mul (me_var (i := 2)) (me_var (i := 5))) (ma_cons (me_mul (me_var (i := 3)) (me_var (i := 4))) ma_nil))))))))) (ms_one (ms_ret me_bl)) ms_nil)
    (ms_cons (ms_asg (me_call C_is_below hr (ma_cons (me_var (i := 0)) (ma_cons (me_var (i := 1)) ma_nil))) (mg_nm (n := 6) sc__law_good.nd))
    (ms_one (ms_ret (me_and (me_isi (tn := "bool") m_isinstance (me_var (i := 6)) m_bool (by decide +kernel) (by decide +kernel)) (me_one (c_eq hr (me_var (i := 6)) (c_lt (me_mul (me_var (i := 2)) (me_var (i := 5))) (me_mul (me_var (i := 4)) (me_var (i := 3)))).1).1))))))))))
theorem ok_law {f : Addr} {fd : FuncData} (F : L2.Fun K "law" "law" s_law f fd) (C__law_draws : Cal P w K mg base "_law_draws" 1 (spM K 1 g__law_draws) 2) (C__law_drawn : Cal P w K mg base "_law_drawn" 1 (spM K 1 g__law_drawn) 2) (C__law_good : Cal P w K mg base "_law_good" 2 (spM K 2 g__law_good) 4) (m_range : mg "range" = none) (m_len : mg "len" = none) : FnOk P w K mg base CX0 5 f fd ["_law_script"] (spM K 1 g_law) :=
  def_fn (b := b_law) F sc_law fun cdv A outer s H E hr =>
    (ms_cons (ms_asg (me_call C__law_draws hr (ma_cons (me_var (i := 0)) ma_nil)) (mg_nm (n := 1) sc_law.nd))
    (ms_cons (ms_for (x := B1_law) (mi_range1 m_range (me_add me_int (me_div (me_len m_len (ma_cons (me_var (i := 1)) ma_nil)) me_int))) (mg_nm (n := 2) sc_law.nd) (ms_cons (ms_asg (me_call C__law_drawn hr (ma_cons (me_var (i := 1)) ma_nil)) (mg_nm (n := 3) sc_law.nd))
    (ms_cons (ms_asg (me_call C__law_drawn hr (ma_cons (me_var (i := 1)) ma_nil)) (mg_nm (n := 4) sc_law.nd))
    (ms_cons (ms_if (c_eq hr (me_mod (me_var (i := 2)) me_int) me_int).2 (ms_one (ms_asg (me_var (i := 3)) (mg_nm (n := 4) sc_law.nd))) ms_nil)
    (ms_one (ms_if (PW.pt (mw_or (mt_not (mt_val (me_call C__law_good hr (ma_cons (me_var (i := 3)) (ma_cons (me_var (i := 4)) ma_nil))))) (mw_or (mt_not (mt_val (me_call C__law_good hr (ma_cons (me_var (i := 4)) (ma_cons (me_var (i := 3)) ma_nil))))) (mw_or1 (mt_not (mt_val (me_call C__law_good hr (ma_cons (me_var (i := 3)) (ma_cons (me_var (i := 3)) ma_nil))))))))) (ms_one (ms_ret me_bl)) ms_nil))))))
    (ms_one (ms_ret me_bl))))
end
theorem all_mk {l : PySem.W.OpenLaw} {w : World} {K : PySem.W.Frag} {h : Heap} {mg : Str → Option Value} {fa : Addr} (X : K.In h) (G : h.Ns mainGlobals mg) (hfa : mg "law" = some (.ref fa)) {f_common : Addr} {fd_common : FuncData} {f_fraction : Addr} {fd_fraction : FuncData} {f_added : Addr} {fd_added : FuncData} {f_less : Addr} {fd_less : FuncData} {f_times : Addr} {fd_times : FuncData} {f_over : Addr} {fd_over : FuncData} {f_is_below : Addr} {fd_is_below : FuncData} {f__law_mixed : Addr} {fd__law_mixed : FuncData} {f__law_draws : Addr} {fd__law_draws : FuncData} {f__law_next : Addr} {fd__law_next : FuncData} {f__law_low : Addr} {fd__law_low : FuncData} {f__law_drawn : Addr} {fd__law_drawn : FuncData} {f__law_same : Addr} {fd__law_same : FuncData} {f__law_good : Addr} {fd__law_good : FuncData} {f_law : Addr} {fd_law : FuncData} 
    (d_common : DefAt K "common" s_common f_common fd_common) (d_fraction : DefAt K "fraction" s_fraction f_fraction fd_fraction) (d_added : DefAt K "added" s_added f_added fd_added) (d_less : DefAt K "less" s_less f_less fd_less) (d_times : DefAt K "times" s_times f_times fd_times) (d_over : DefAt K "over" s_over f_over fd_over) (d_is_below : DefAt K "is_below" s_is_below f_is_below fd_is_below) (d__law_mixed : DefAt K "_law_mixed" s__law_mixed f__law_mixed fd__law_mixed) (d__law_draws : DefAt K "_law_draws" s__law_draws f__law_draws fd__law_draws) (d__law_next : DefAt K "_law_next" s__law_next f__law_next fd__law_next) (d__law_low : DefAt K "_law_low" s__law_low f__law_low fd__law_low) (d__law_drawn : DefAt K "_law_drawn" s__law_drawn f__law_drawn fd__law_drawn) (d__law_same : DefAt K "_law_same" s__law_same f__law_same fd__law_same) (d__law_good : DefAt K "_law_good" s__law_good f__law_good fd__law_good) (d_law : DefAt K "law" s_law f_law fd_law)
    (z_abs : PySem.W.nsIn K mainGlobals "abs" = some none) (z_range : PySem.W.nsIn K mainGlobals "range" = some none) (z_min : PySem.W.nsIn K mainGlobals "min" = some none) (z_len : PySem.W.nsIn K mainGlobals "len" = some none) (z_isinstance : PySem.W.nsIn K mainGlobals "isinstance" = some none) (z_tuple : PySem.W.nsIn K mainGlobals "tuple" = some none) (z_bool : PySem.W.nsIn K mainGlobals "bool" = some none) (z_int : PySem.W.nsIn K mainGlobals "int" = some none)  :
    ∃ fd : FuncData, (∀ (s : Shared) (v : Value), BindsTo s fd ⟨[v], []⟩ [("_law_script", v)]) ∧ ∀ base : Heap, K.In base → base.Ns mainGlobals mg → FnOk l.prog w K mg base CX0 5 fa fd ["_law_script"] (spLaw K) := by
  have g_common : mg "common" = some (.ref f_common) := PySem.W.mg_of X G d_common.1
  have g_fraction : mg "fraction" = some (.ref f_fraction) := PySem.W.mg_of X G d_fraction.1
  have g_added : mg "added" = some (.ref f_added) := PySem.W.mg_of X G d_added.1
  have g_less : mg "less" = some (.ref f_less) := PySem.W.mg_of X G d_less.1
  have g_times : mg "times" = some (.ref f_times) := PySem.W.mg_of X G d_times.1
  have g_over : mg "over" = some (.ref f_over) := PySem.W.mg_of X G d_over.1
  have g_is_below : mg "is_below" = some (.ref f_is_below) := PySem.W.mg_of X G d_is_below.1
  have g__law_mixed : mg "_law_mixed" = some (.ref f__law_mixed) := PySem.W.mg_of X G d__law_mixed.1
  have g__law_draws : mg "_law_draws" = some (.ref f__law_draws) := PySem.W.mg_of X G d__law_draws.1
  have g__law_next : mg "_law_next" = some (.ref f__law_next) := PySem.W.mg_of X G d__law_next.1
  have g__law_low : mg "_law_low" = some (.ref f__law_low) := PySem.W.mg_of X G d__law_low.1
  have g__law_drawn : mg "_law_drawn" = some (.ref f__law_drawn) := PySem.W.mg_of X G d__law_drawn.1
  have g__law_same : mg "_law_same" = some (.ref f__law_same) := PySem.W.mg_of X G d__law_same.1
  have g__law_good : mg "_law_good" = some (.ref f__law_good) := PySem.W.mg_of X G d__law_good.1
  have g_law : mg "law" = some (.ref f_law) := PySem.W.mg_of X G d_law.1
  have m_abs : mg "abs" = none := PySem.W.mg_none_of X G z_abs
  have m_range : mg "range" = none := PySem.W.mg_none_of X G z_range
  have m_min : mg "min" = none := PySem.W.mg_none_of X G z_min
  have m_len : mg "len" = none := PySem.W.mg_none_of X G z_len
  have m_isinstance : mg "isinstance" = none := PySem.W.mg_none_of X G z_isinstance
  have m_tuple : mg "tuple" = none := PySem.W.mg_none_of X G z_tuple
  have m_bool : mg "bool" = none := PySem.W.mg_none_of X G z_bool
  have m_int : mg "int" = none := PySem.W.mg_none_of X G z_int
  have e := hfa.symm.trans g_law
  cases e
  refine ⟨fd_law, fun s v => ?_, fun base _ _ => ?_⟩
  · obtain ⟨oc, od, kV, doc, pm, an, cdv, ct, osl, efd, _, _⟩ := d_law.2.ex
    subst efd
    exact .of_eq rfl
  · have C_common := ok_common (P := l.prog) (w := w) (base := base) d_common.2 g_common 
    have C_fraction := ok_fraction (P := l.prog) (w := w) (base := base) d_fraction.2 g_fraction C_common m_abs
    have C_added := ok_added (P := l.prog) (w := w) (base := base) d_added.2 g_added C_fraction
    have C_less := ok_less (P := l.prog) (w := w) (base := base) d_less.2 g_less C_fraction
    have C_times := ok_times (P := l.prog) (w := w) (base := base) d_times.2 g_times C_fraction
    have C_over := ok_over (P := l.prog) (w := w) (base := base) d_over.2 g_over C_fraction
    have C_is_below := ok_is_below (P := l.prog) (w := w) (base := base) d_is_below.2 g_is_below 
    have C__law_mixed := ok__law_mixed (P := l.prog) (w := w) (base := base) d__law_mixed.2 g__law_mixed 
    have C__law_draws := ok__law_draws (P := l.prog) (w := w) (base := base) d__law_draws.2 g__law_draws C__law_mixed m_range m_min m_len m_abs
    have C__law_next := ok__law_next (P := l.prog) (w := w) (base := base) d__law_next.2 g__law_next 
    have C__law_low := ok__law_low (P := l.prog) (w := w) (base := base) d__law_low.2 g__law_low m_abs
    have C__law_drawn := ok__law_drawn (P := l.prog) (w := w) (base := base) d__law_drawn.2 g__law_drawn C__law_next C__law_low
    have C__law_same := ok__law_same (P := l.prog) (w := w) (base := base) d__law_same.2 g__law_same C__law_low m_isinstance m_tuple m_bool m_int
    have C__law_good := ok__law_good (P := l.prog) (w := w) (base := base) d__law_good.2 g__law_good C_less C__law_same C_added C_times C_over C_is_below m_isinstance m_bool
    exact law_fn (ok_law d_law.2 C__law_draws C__law_drawn C__law_good m_range m_len) fun ns hl _ => law_true ns hl
end Ew
end
open PySem PySem.W PyProof.Rows in
set_option maxRecDepth 100000 in
set_option maxHeartbeats 0 in
theorem PySem.Challenge.cw_evenwalls_k50_reckoned_with_fractions_holds : PySem.Challenge.rw_evenwalls_k50_reckoned_with_fractions.Holds := by
  w_on; o_law; k_head; (case hw => w_witness2)
  k_fill
  refine L2.walk_ofB (l := PySem.Challenge.rw_evenwalls_k50_reckoned_with_fractions) (n := 63) (k := 5) (x := "_law_script") (CX := fun _ => L2.CX0) (sp := fun w => Ew.spLaw _) rfl (by decide) rfl ⟨rfl, by decide, by decide⟩ (fun w h Y => PySem.W.kIn_of Y) ?F (fun _ _ a ns hl hb hO hS => ⟨a, ns, rfl, hS, hl, hb, hO, fun _ => rfl⟩) (fun _ _ _ _ _ h => h)
  case F =>
    intro w mg fa h KX G hmg
    refine' Ew.all_mk KX G hmg ?d_common ?d_fraction ?d_added ?d_less ?d_times ?d_over ?d_is_below ?d__law_mixed ?d__law_draws ?d__law_next ?d__law_low ?d__law_drawn ?d__law_same ?d__law_good ?d_law ?z_abs ?z_range ?z_min ?z_len ?z_isinstance ?z_tuple ?z_bool ?z_int
    (case d_common => exact Ew.defAt_mk (by k_is) (by k_is) (by k_is) (by k_is))
    (case d_fraction => exact Ew.defAt_mk (by k_is) (by k_is) (by k_is) (by k_is))
    (case d_added => exact Ew.defAt_mk (by k_is) (by k_is) (by k_is) (by k_is))
    (case d_less => exact Ew.defAt_mk (by k_is) (by k_is) (by k_is) (by k_is))
    (case d_times => exact Ew.defAt_mk (by k_is) (by k_is) (by k_is) (by k_is))
    (case d_over => exact Ew.defAt_mk (by k_is) (by k_is) (by k_is) (by k_is))
    (case d_is_below => exact Ew.defAt_mk (by k_is) (by k_is) (by k_is) (by k_is))
    (case d__law_mixed => exact Ew.defAt_mk (by k_is) (by k_is) (by k_is) (by k_is))
    (case d__law_draws => exact Ew.defAt_mk (by k_is) (by k_is) (by k_is) (by k_is))
    (case d__law_next => exact Ew.defAt_mk (by k_is) (by k_is) (by k_is) (by k_is))
    (case d__law_low => exact Ew.defAt_mk (by k_is) (by k_is) (by k_is) (by k_is))
    (case d__law_drawn => exact Ew.defAt_mk (by k_is) (by k_is) (by k_is) (by k_is))
    (case d__law_same => exact Ew.defAt_mk (by k_is) (by k_is) (by k_is) (by k_is))
    (case d__law_good => exact Ew.defAt_mk (by k_is) (by k_is) (by k_is) (by k_is))
    (case d_law => exact Ew.defAt_mk (by k_is) (by k_is) (by k_is) (by k_is))
    (case z_abs => k_is)
    (case z_range => k_is)
    (case z_min => k_is)
    (case z_len => k_is)
    (case z_isinstance => k_is)
    (case z_tuple => k_is)
    (case z_bool => k_is)
    (case z_int => k_is)
