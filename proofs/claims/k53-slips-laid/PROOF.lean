import PyProof.Rows.All
import PySem.Eval
import Wide.All
import OpenK.AllK
import Wide.FinOn
import HandS.Base
import HandS.Call
import HandS.List
import HandS.Comp
import HandS.Ends
import HandS.Iter
import HandS.Text
import HandS.Exc
import HandS.ExcOwn
import HandS.ExcField
import HandS.ExcInit
import HandS.Walk
import HandS.Zip
import HandS.IsInst
import HandS.Deep
import HandS.TupAny
import HandS.TupMul
import HandS.Star
import HandS.Property
import HandS.Flow
import HandS.Style
import HandS.CallSlots
import HandS.Lambda
import HandS.Nested
import KE.GoesMore
import KE.GoesEnum
import KE.KTupSum
import HandS.SetFor
import KE.KExcIs
import KE.KNest
import KE.KExcSuper
import KE.KStateDown
import HandS.Head0
import HandS.Head1
import HandS.Head2
import HandS.HeadEnd
import HandS.HeadHook1
import HandS.HeadHook2
import HandS.HeadHook3
import HandS.HeadHook4
import HandS.HeadWalk
import HandS.EndTab
import PySem.Challenge.RW_touchpress_k53_whole_slips_laid
section
set_option linter.all false

namespace Tp
open PySem


structure LamInfo where
  params : Arguments
  body : Expr
  scope : Scope
  ps : List Str
  fr : List Str
  own : List Str
abbrev LamInfo.NN (l : LamInfo) : List Str := l.ps ++ (l.fr ++ l.own)



inductive AV where
  | non | bl (b : Bool) | int (i : Int) | str (s : List Nat)
  | tup (xs : List AV) | lst (xs : List AV)
  | ref (n : Nat) | fn (i : Nat) | clo (l : LamInfo) (cs : List (Option AV)) | cls (i : Nat) | xcls (i : Nat) | ty (n : String)
  | exc (c : Nat) (x : AV) | obj (c : Nat) (fs : List (Str × AV)) | dct (kvs : List (AV × AV))
  deriving Inhabited

inductive AObj where
  | lst (xs : List AV)
  | dct (kvs : List (AV × AV))
  | ins (c : Nat) (fs : List (Str × AV))
  deriving Inhabited

abbrev AHp := List AObj
abbrev AEnv := List (Option AV)

inductive Res (α : Type) where
  | ok (a : α) (h : AHp)
  | exc (c : Nat) (x : AV) (h : AHp)
  | stuck

abbrev M (α : Type) := AHp → Res α
def ret {α : Type} (a : α) : M α := fun h => .ok a h
def fail {α : Type} : M α := fun _ => .stuck
def bind {α β : Type} (m : M α) (k : α → M β) : M β := fun h => match m h with
  | .ok a h' => k a h'
  | .exc c x h' => .exc c x h'
  | .stuck => .stuck


abbrev SL : Nat := 16777216

mutual

def AV.pure : AV → Bool
  | .ref _ | .clo _ _ | .exc _ _ => false
  | .tup xs | .lst xs => AV.pureAll xs
  | .obj _ fs => AV.pureF fs
  | .dct kvs => AV.pureK kvs
  | _ => true
def AV.pureAll : List AV → Bool
  | [] => true
  | x :: r => x.pure && AV.pureAll r
def AV.pureF : List (Str × AV) → Bool
  | [] => true
  | (_, x) :: r => x.pure && AV.pureF r
def AV.pureK : List (AV × AV) → Bool
  | [] => true
  | (k, x) :: r => k.pure && x.pure && AV.pureK r
end
mutual

def AV.noC : AV → Bool
  | .clo _ _ => false
  | .tup xs | .lst xs => AV.noCs xs
  | .exc _ x => x.noC
  | .obj _ fs => AV.noCf fs
  | _ => true
def AV.noCs : List AV → Bool
  | [] => true
  | x :: r => x.noC && AV.noCs r
def AV.noCf : List (Str × AV) → Bool
  | [] => true
  | (_, x) :: r => x.noC && AV.noCf r
end
def AV.noCo : List (Option AV) → Bool
  | [] => true
  | none :: r => AV.noCo r
  | some x :: r => x.noC && AV.noCo r
mutual

def AV.old (n0 : Nat) : AV → Bool
  | .ref n => decide (n < n0)
  | .clo _ _ | .exc _ _ => false
  | .tup xs | .lst xs => AV.oldAll n0 xs
  | .obj _ fs => AV.pureF fs
  | .dct kvs => AV.pureK kvs
  | _ => true
def AV.oldAll (n0 : Nat) : List AV → Bool
  | [] => true
  | x :: r => x.old n0 && AV.oldAll n0 r
end
def AObj.val : AObj → AV
  | .lst xs => .lst xs
  | .dct kvs => .dct kvs
  | .ins c fs => .obj c fs
mutual

def AV.frz (h : AHp) (n0 : Nat) : AV → AV
  | .ref n => if n < n0 then .ref n else match h[n]? with
    | some o => o.val
    | none => .ref n
  | .tup xs => .tup (AV.frzAll h n0 xs)
  | .lst xs => .lst (AV.frzAll h n0 xs)
  | v => v
def AV.frzAll (h : AHp) (n0 : Nat) : List AV → List AV
  | [] => []
  | x :: r => x.frz h n0 :: AV.frzAll h n0 r
end


mutual
def AV.eqv : AV → AV → Bool
  | .non, .non => true
  | .bl a, .bl b => a == b
  | .bl a, .int j => (if a then 1 else 0) == j
  | .int i, .bl b => i == (if b then 1 else 0)
  | .int i, .int j => i == j
  | .str x, .str y => x == y
  | .lst xs, .lst ys => AV.eqvAll xs ys
  | .tup xs, .tup ys => AV.eqvAll xs ys
  | _, _ => false
def AV.eqvAll : List AV → List AV → Bool
  | [], [] => true
  | x :: xs, y :: ys => x.eqv y && AV.eqvAll xs ys
  | _, _ => false
end
mutual

def AV.dat : Nat → AV → Bool
  | _, .non | _, .bl _ | _, .int _ => true
  | _, .str s => s.all fun c => decide (c < 55296)
  | n + 1, .tup xs | n + 1, .lst xs => AV.datAll n xs
  | _, _ => false
def AV.datAll : Nat → List AV → Bool
  | _, [] => true
  | n, x :: r => x.dat n && AV.datAll n r
end
abbrev DD : Nat := 60


def sIx (n d : Nat) : Option Int → Nat
  | none => d
  | some v => if v < 0 then (v + (n : Int)).toNat else min v.toNat n
def cut {α : Type} (xs : List α) (lo hi : Option Int) : List α :=
  (xs.drop (sIx xs.length 0 lo)).take (sIx xs.length xs.length hi - sIx xs.length 0 lo)
def ixN (n : Nat) (i : Int) : Option Nat := if 0 ≤ i then (if i < n then some i.toNat else none) else if -(n : Int) ≤ i then some (i + n).toNat else none
def atI {α : Type} (xs : List α) (i : Int) : Option α := (ixN xs.length i).bind fun j => xs[j]?


def okI (i : Int) : M AV := ret (.int i)
def small64 (i : Int) : Bool := decide (-(2 ^ 64) < i) && decide (i < 2 ^ 64)

def lstOf (v : AV) : M (List AV) := fun h => match v with
  | .lst xs => .ok xs h
  | .ref n => (match h[n]? with
    | some (.lst xs) => .ok xs h
    | _ => .stuck)
  | _ => .stuck
def opAdd : AV → AV → M AV
  | .int i, .int j => ret (.int (i + j))
  | .str x, .str y => if x.length + y.length ≤ SL then ret (.str (x ++ y)) else fail
  | .tup x, .tup y => if x.length + y.length ≤ SL then ret (.tup (x ++ y)) else fail
  | .ref n, y => bind (lstOf (.ref n)) fun x => bind (lstOf y) fun y => if x.length + y.length ≤ SL then ret (.lst (x ++ y)) else fail
  | .lst x, y => bind (lstOf y) fun y => if x.length + y.length ≤ SL then ret (.lst (x ++ y)) else fail
  | _, _ => fail
def opSub : AV → AV → M AV
  | .int i, .int j => ret (.int (i - j))
  | _, _ => fail
def opMul : AV → AV → M AV
  | .int i, .int j => if small64 i || small64 j then ret (.int (i * j)) else fail
  | .tup xs, .int k => if xs ≠ [] ∧ 2 ≤ k ∧ k ≤ 100000 ∧ xs.length * k.toNat ≤ SL then ret (.tup (List.replicate k.toNat xs).flatten) else fail
  | _, _ => fail
def opFdiv : AV → AV → M AV
  | .int i, .int j => if 0 < j ∧ j < 1073741824 then ret (.int (i / j)) else fail
  | _, _ => fail
def opMod : AV → AV → M AV
  | .int i, .int j => if 0 < j then ret (.int (i % j)) else fail
  | _, _ => fail
def opPow : AV → AV → M AV
  | .int i, .int j => if 0 ≤ j ∧ j ≤ 1000000 ∧ i.natAbs < 2 ^ 64 then ret (.int (i ^ j.toNat)) else fail
  | _, _ => fail
def opBin : Operator → AV → AV → M AV
  | .Add => opAdd
  | .Sub => opSub
  | .Mult => opMul
  | .FloorDiv => opFdiv
  | .Mod => opMod
  | .Pow => opPow
  | _ => fun _ _ => fail

def deref (v : AV) : M AV := fun h => match v with
  | .ref n => (match h[n]? with
    | some (.lst xs) => .ok (.lst xs) h
    | _ => .stuck)
  | v => .ok v h
def opEq (x y : AV) : M AV := bind (deref x) fun x => bind (deref y) fun y => if x.dat DD && y.dat DD then ret (.bl (x.eqv y)) else fail
def opNe (x y : AV) : M AV := bind (deref x) fun x => bind (deref y) fun y => if x.dat DD && y.dat DD then ret (.bl (!x.eqv y)) else fail
def flat : AV → Bool
  | .non | .bl _ | .int _ | .str _ => true
  | _ => false
def opIn (x y : AV) : M AV := match y with
  | .lst ys => if x.dat DD && AV.datAll DD ys then ret (.bl (ys.any fun y => y.eqv x)) else fail
  | .tup ys => if flat x && ys.all flat then ret (.bl (ys.any fun y => y.eqv x)) else fail
  | .str s => match x with
    | .str [c] => ret (.bl (decide (c ∈ s)))
    | _ => fail
  | _ => fail
def opIs (x y : AV) : M AV := match y with
  | .non => (match x with
    | .non => ret (.bl true)
    | _ => ret (.bl false))
  | .bl b => (match x with
    | .bl a => ret (.bl (a == b))
    | _ => fail)
  | _ => fail
def notV : AV → M AV
  | .bl b => ret (.bl !b)
  | _ => fail
def opCmp : CmpOp → AV → AV → M AV
  | .Eq, x, y => opEq x y
  | .NotEq, x, y => opNe x y
  | .Lt, .int i, .int j => ret (.bl (decide (i < j)))
  | .LtE, .int i, .int j => ret (.bl (decide (i ≤ j)))
  | .Gt, .int i, .int j => ret (.bl (decide (j < i)))
  | .GtE, .int i, .int j => ret (.bl (decide (j ≤ i)))
  | .In, x, y => opIn x y
  | .NotIn, x, y => bind (opIn x y) notV
  | .Is, x, y => opIs x y
  | .IsNot, x, y => bind (opIs x y) notV
  | _, _, _ => fail

def seqOf (v : AV) : M (List AV) := fun h => match v with
  | .tup xs => .ok xs h
  | v => lstOf v h
def truth (v : AV) : M Bool := fun h => match v with
  | .non => .ok false h
  | .bl b => .ok b h
  | .int i => .ok (i != 0) h
  | .str s => if s.length ≤ SL then .ok (!s.isEmpty) h else .stuck
  | .tup xs => .ok (!xs.isEmpty) h
  | .lst xs => .ok (!xs.isEmpty) h
  | .ref n => (match h[n]? with
    | some (.lst xs) => .ok (!xs.isEmpty) h
    | _ => .stuck)
  | _ => .stuck
def ofOpt {α : Type} : Option α → M α
  | some a => ret a
  | none => fail
def index (o i : AV) : M AV := match i with
  | .int i => (match o with
    | .str s => if s.length ≤ SL then bind (ofOpt (atI s i)) fun c => ret (.str [c]) else fail
    | o => bind (seqOf o) fun xs => ofOpt (atI xs i))
  | _ => fail
def slice (o : AV) (lo hi : Option Int) : M AV := match o with
  | .tup xs => ret (.tup (cut xs lo hi))
  | .str s => if s.length ≤ SL then ret (.str (cut s lo hi)) else fail
  | o => bind (lstOf o) fun xs => ret (.lst (cut xs lo hi))
def lenOf (v : AV) : M AV := match v with
  | .str s => if s.length ≤ SL then ret (.int s.length) else fail
  | v => bind (seqOf v) fun xs => ret (.int xs.length)


structure FnInfo where
  name : Str
  ps : List Str
  N : List Str
  body : List Stmt
  scope : Scope
  
  keep : Bool := false
  
  lam : Bool := false
structure ClsInfo where
  name : Str
  init : Nat
  
  live : Bool
  
  fields : List Str
  meths : List (Str × Nat)
  props : List (Str × Nat)
structure ExcInfo where
  name : Str
  field : Option Str
  
  up : List Nat
inductive GV where
  | fn (i : Nat) | cls (i : Nat) | xcls (i : Nat) | con (v : AV)
structure Glob where
  fns : List FnInfo
  clss : List ClsInfo
  excs : List ExcInfo
  names : List (Str × GV)
  
  muts : List (Nat × Nat)

inductive Callee where
  | fn (i : Nat)
  | clo (l : LamInfo) (cs : List (Option AV))
abbrev Calls := Callee → List AV → M AV


abbrev DE := AEnv → M AV
abbrev DT := AEnv → M Bool
abbrev DA := AEnv → M (List AV)
inductive Src where
  | items (xs : List AV)
  | live (n : Nat)
abbrev DI := AEnv → M Src
inductive Out where
  | nx (env : AEnv) (h : AHp)
  | bk (env : AEnv) (h : AHp)
  | ct (env : AEnv) (h : AHp)
  | rt (v : AV) (h : AHp)
  | exc (c : Nat) (x : AV) (env : AEnv) (h : AHp)
  | stuck
abbrev DS := AEnv → AHp → Out

abbrev DG := AV → AEnv → AHp → Option (AEnv × AHp)

def eFail : DE := fun _ => fail
def eVal (v : AV) : DE := fun _ => ret v
def eVar (i : Nat) : DE := fun env => match env[i]? with
  | some (some v) => ret v
  | _ => fail
def eBin (op : Operator) (a b : DE) : DE := fun env => bind (a env) fun x => bind (b env) fun y => opBin op x y
def eCmp (op : CmpOp) (a b : DE) : DE := fun env => bind (a env) fun x => bind (b env) fun y => opCmp op x y

def eChain (op op' : CmpOp) (a b c : DE) : DE := fun env => bind (a env) fun x => bind (b env) fun y => bind (opCmp op x y) fun r => match r with
  | .bl true => bind (c env) fun z => opCmp op' y z
  | .bl false => ret (.bl false)
  | _ => fail
def asB (v : AV) : M Bool := match v with
  | .bl b => ret b
  | _ => fail

def tB (m : DE) : DT := fun env => bind (m env) asB
def tTruth (m : DE) : DT := fun env => bind (m env) truth
def tNot (t : DT) : DT := fun env => bind (t env) fun b => ret !b
def tAnd : List DT → DT
  | [] => fun _ => ret true
  | t :: r => fun env => bind (t env) fun b => if b then tAnd r env else ret false
def tOr : List DT → DT
  | [] => fun _ => ret false
  | t :: r => fun env => bind (t env) fun b => if b then ret true else tOr r env
def eAnd : List DE → DE
  | [] => eFail
  | [a] => a
  | a :: r => fun env => bind (a env) fun v => bind (truth v) fun b => if b then eAnd r env else ret v
def eOr : List DE → DE
  | [] => eFail
  | [a] => a
  | a :: r => fun env => bind (a env) fun v => bind (truth v) fun b => if b then ret v else eOr r env
def eNot (m : DE) : DE := fun env => bind (m env) fun v => bind (truth v) fun b => ret (.bl !b)
def eNeg (m : DE) : DE := fun env => bind (m env) fun v => match v with
  | .int i => ret (.int (-i))
  | _ => fail
def eIf (t : DT) (a b : DE) : DE := fun env => bind (t env) fun c => if c then a env else b env
def tIf (t a b : DT) : DT := fun env => bind (t env) fun c => if c then a env else b env
def aNil : DA := fun _ => ret []
def aCons (m : DE) (r : DA) : DA := fun env => bind (m env) fun x => bind (r env) fun xs => ret (x :: xs)
def aStar (m : DE) (r : DA) : DA := fun env => bind (m env) fun x => bind (seqOf x) fun ys => bind (r env) fun xs => ret (ys ++ xs)
def eTup (a : DA) : DE := fun env => bind (a env) fun xs => if xs.length ≤ SL then ret (.tup xs) else fail
def eLst (a : DA) : DE := fun env => bind (a env) fun xs => if xs.length ≤ SL then ret (.lst xs) else fail

def eNew (a : DA) : DE := fun env => bind (a env) fun xs => fun h => if xs.length ≤ SL ∧ AV.pureAll xs = true then .ok (.ref h.length) (h ++ [.lst xs]) else .stuck
def eIx (a b : DE) : DE := fun env => bind (a env) fun x => bind (b env) fun y => index x y
abbrev DP := AEnv → M (Option Int)
def pNo : DP := fun _ => ret none
def pAt (m : DE) : DP := fun env => bind (m env) fun v => match v with
  | .int i => ret (some i)
  | _ => fail
def eSl (a : DE) (lo hi : DP) : DE := fun env => bind (a env) fun x => bind (lo env) fun l => bind (hi env) fun u => slice x l u
def orderGo {α : Type} (l : List (Str × α)) : List Str → Option (List α)
  | [] => some []
  | p :: r => (match l.lookup p, orderGo l r with
    | some v, some vs => some (v :: vs)
    | _, _ => none)

def order {α : Type} (ps ks : List Str) (xs ys : List α) : Option (List α) :=
  if xs.length + ks.length = ps.length ∧ ks.length = ys.length ∧ (ks.all fun k => (ps.drop xs.length).contains k) = true ∧ ks.Nodup then (orderGo (ks.zip ys) (ps.drop xs.length)).map (xs ++ ·) else none
def eCall (c : Calls) (i : Nat) (a : DA) : DE := fun env => bind (a env) fun xs => c (.fn i) xs

def eCallK (c : Calls) (i : Nat) (ps ks : List Str) (a k : DA) : DE := fun env => bind (a env) fun xs => bind (k env) fun ys => match order ps ks xs ys with
  | some zs => c (.fn i) zs
  | none => fail

def chkC (r : Res AV) : Res AV := match r with
  | .ok v h => if v.noC then .ok v h else .stuck
  | .exc c x h => if x.noC then .exc c x h else .stuck
  | .stuck => .stuck

def caps (env : AEnv) (fr : List Nat) : List (Option AV) := fr.map fun k => (env[k]?).getD none

def eCallL (c : Calls) (i : Nat) (l : LamInfo) (fr : List Nat) (a : DA) : DE := fun env => bind (a env) fun xs h => chkC (c (.fn i) (xs ++ [.clo l (caps env fr)]) h)

def applyV (c : Calls) (a : M (List AV)) (v : AV) : M AV := match v with
  | .fn i => bind a (c (.fn i))
  | .clo l cs => bind a (c (.clo l cs))
  | _ => fail

def eCallV (c : Calls) (f : DE) (a : DA) : DE := fun env => bind (f env) (applyV c (a env))


def isTy (t : AV) (n : String) : Bool := match t with
  | .non => n == "NoneType"
  | .bl _ => n == "bool" || n == "int"
  | .int _ => n == "int"
  | .str _ => n == "str"
  | .tup _ => n == "tuple"
  | .lst _ => n == "list"
  | .dct _ => n == "dict"
  | _ => false
def tyNames : List String := ["bool", "int", "str", "tuple", "list", "dict"]
def isInst (G : Glob) (x c : AV) : M AV := fun h => match c with
  | .ty n => (match x with
    | .ref k => (match h[k]? with
      | some (.lst _) => if tyNames.contains n then .ok (.bl (n == "list")) h else .stuck
      | some (.dct _) => if tyNames.contains n then .ok (.bl (n == "dict")) h else .stuck
      | some (.ins _ _) => if tyNames.contains n then .ok (.bl false) h else .stuck
      | _ => .stuck)
    | .obj _ _ => if tyNames.contains n then .ok (.bl false) h else .stuck
    | .exc _ _ => if n == "ValueError" then .ok (.bl true) h else .stuck
    | .non | .bl _ | .int _ | .str _ | .tup _ | .lst _ | .dct _ => if tyNames.contains n then .ok (.bl (isTy x n)) h else .stuck
    | _ => .stuck)
  | .xcls d => (match x with
    | .exc c _ => (match G.excs[c]? with
      | some e => .ok (.bl (e.up.contains d)) h
      | none => .stuck)
    | _ => .stuck)
  | .cls d => (match x with
    | .obj c _ => .ok (.bl (c == d)) h
    | .ref k => (match h[k]? with
      | some (.ins c _) => .ok (.bl (c == d)) h
      | _ => .stuck)
    | .non | .bl _ | .int _ | .str _ | .tup _ | .lst _ | .dct _ => .ok (.bl false) h
    | _ => .stuck)
  | _ => .stuck
def intsOf : List AV → Option (List Int)
  | [] => some []
  | .int i :: r => (intsOf r).map (i :: ·)
  | _ => none
def boolsOf : List AV → Option (List Bool)
  | [] => some []
  | .bl b :: r => (boolsOf r).map (b :: ·)
  | _ => none
inductive BF where
  | isinstance | len | int | abs | max | min | sum | all | any | tuple | list | divmod
  deriving DecidableEq
def bLen : List AV → M AV
  | [x] => lenOf x
  | _ => fail
def bInt : List AV → M AV
  | [.int i] => ret (.int i)
  | [.bl b] => ret (.int (if b then 1 else 0))
  | _ => fail
def bAbs : List AV → M AV
  | [.int i] => ret (.int (if i < 0 then -i else i))
  | _ => fail
def bMax : List AV → M AV
  | [.int i, .int j] => ret (.int (if j > i then j else i))
  | _ => fail
def bMin : List AV → M AV
  | [.int i, .int j] => ret (.int (if j < i then j else i))
  | _ => fail
def bSum : List AV → M AV
  | [v] => bind (seqOf v) fun ys => bind (ofOpt (intsOf ys)) fun ns => ret (.int ns.sum)
  | _ => fail
def bAll : List AV → M AV
  | [v] => bind (lstOf v) fun ys => bind (ofOpt (boolsOf ys)) fun bs => ret (.bl (bs.all id))
  | _ => fail
def bAny : List AV → M AV
  | [v] => bind (lstOf v) fun ys => bind (ofOpt (boolsOf ys)) fun bs => ret (.bl (bs.any id))
  | _ => fail
def bTuple : List AV → M AV
  | [v] => bind (seqOf v) fun ys => ret (.tup ys)
  | _ => fail
def bList : List AV → M AV
  | [v] => bind (seqOf v) fun ys => ret (.lst ys)
  | _ => fail
def bDivmod : List AV → M AV
  | [.int i, .int j] => if 0 < j ∧ j < 1073741824 then ret (.tup [.int (i / j), .int (i % j)]) else fail
  | _ => fail
def bIsInst (G : Glob) : List AV → M AV
  | [x, c] => isInst G x c
  | _ => fail
def builtin (G : Glob) : BF → List AV → M AV
  | .isinstance => bIsInst G
  | .len => bLen
  | .int => bInt
  | .abs => bAbs
  | .max => bMax
  | .min => bMin
  | .sum => bSum
  | .all => bAll
  | .any => bAny
  | .tuple => bTuple
  | .list => bList
  | .divmod => bDivmod
def bfOf : List (Str × BF) := [("isinstance", .isinstance), ("len", .len), ("int", .int), ("abs", .abs), ("max", .max), ("min", .min), ("sum", .sum), ("all", .all), ("any", .any), ("tuple", .tuple), ("list", .list), ("divmod", .divmod)]
def eBlt (G : Glob) (f : BF) (a : DA) : DE := fun env => bind (a env) (builtin G f)


def firstIx (ys : List AV) (x : AV) : Option Nat := match ys.findIdx? (fun y => y.eqv x) with
  | some j => some j
  | none => none
inductive MF where
  | append | extend | count | index
  deriving DecidableEq
def mAppend (o : AV) (xs : List AV) : M AV := match xs with
  | [x] => fun h => (match o with
    | .ref n => (match h[n]? with
      | some (.lst ys) => if ys.length < SL ∧ x.pure = true then .ok .non (h.set n (.lst (ys ++ [x]))) else .stuck
      | _ => .stuck)
    | _ => .stuck)
  | _ => fail
def extendBy (o : AV) (zs : List AV) : M AV := fun h => match o with
  | .ref n => (match h[n]? with
    | some (.lst ys) => if ys.length + zs.length ≤ SL ∧ AV.pureAll zs = true then .ok .non (h.set n (.lst (ys ++ zs))) else .stuck
    | _ => .stuck)
  | _ => .stuck
def mExtend (o : AV) (xs : List AV) : M AV := match xs with
  | [x] => bind (lstOf x) (extendBy o)
  | _ => fail
def mCount (o : AV) (xs : List AV) : M AV := match xs with
  | [x] => (match o with
    | .lst ys => if flat x && ys.all flat then ret (.int (ys.countP fun y => y.eqv x : Nat)) else fail
    | _ => fail)
  | _ => fail
def mIndex (o : AV) (xs : List AV) : M AV := match xs with
  | [x] => (match o with
    | .lst ys => if x.dat DD && AV.datAll DD ys then bind (ofOpt (firstIx ys x)) fun j => ret (.int j) else fail
    | _ => fail)
  | _ => fail
def meth : MF → AV → List AV → M AV
  | .append => mAppend
  | .extend => mExtend
  | .count => mCount
  | .index => mIndex
def mfOf : List (Str × MF) := [("append", .append), ("extend", .extend), ("count", .count), ("index", .index)]
def eMeth (m : MF) (o : DE) (a : DA) : DE := fun env => bind (o env) fun v => bind (lstOf v) fun _ => bind (a env) fun xs => meth m v xs


def insOf (v : AV) : M (Nat × List (Str × AV)) := fun h => match v with
  | .obj c fs => .ok (c, fs) h
  | .ref n => (match h[n]? with
    | some (.ins c fs) => .ok (c, fs) h
    | _ => .stuck)
  | _ => .stuck

def noX {α : Type} (m : M α) : M α := fun h => match m h with
  | .ok a h' => .ok a h'
  | _ => .stuck

def attr (G : Glob) (c : Calls) (f : Str) (v : AV) : M AV := match v with
  | .exc k x => (match G.excs[k]? with
    | some e => if e.field = some f then ret x else fail
    | none => fail)
  | v => bind (insOf v) fun p => match p.2.lookup f with
    | some x => (match G.clss[p.1]? with
      | some ci => if ci.fields.contains f then ret x else fail
      | none => fail)
    | none => (match G.clss[p.1]? with
      | some ci => (match ci.props.lookup f with
        | some g => noX (c (.fn g) [v])
        | none => fail)
      | none => fail)

def attrX (G : Glob) (f : Str) (v : AV) : M AV := match v with
  | .exc k x => (match G.excs[k]? with
    | some e => if e.field = some f then ret x else fail
    | none => fail)
  | _ => fail
def eAttrX (G : Glob) (f : Str) (o : DE) : DE := fun env => bind (o env) (attrX G f)
def eAttr (G : Glob) (c : Calls) (f : Str) (o : DE) : DE := fun env => bind (o env) (attr G c f)

def callMeth (G : Glob) (c : Calls) (m : Str) (v : AV) (xs : List AV) : M AV := bind (insOf v) fun p => match G.clss[p.1]? with
  | some ci => (match ci.meths.lookup m, p.2.lookup m with
    | some g, none => c (.fn g) (v :: xs)
    | _, _ => fail)
  | none => fail
def eMethO (G : Glob) (c : Calls) (m : Str) (o : DE) (a : DA) : DE := fun env => bind (o env) fun v => bind (a env) fun xs => callMeth G c m v xs

def eMethK (G : Glob) (c : Calls) (m : Str) (ks : List Str) (o : DE) (a k : DA) : DE := fun env => bind (o env) fun v => bind (a env) fun xs => bind (k env) fun ys =>
  bind (insOf v) fun p => match G.clss[p.1]? with
  | some ci => (match ci.meths.lookup m, p.2.lookup m with
    | some g, none => (match G.fns[g]? with
      | some fi => (match order fi.ps ks (v :: xs) ys with
        | some zs => c (.fn g) zs
        | none => fail)
      | none => fail)
    | _, _ => fail)
  | none => fail

def make (G : Glob) (c : Calls) (k : Nat) (xs : List AV) : M AV := fun h => match G.clss[k]? with
  | some ci => (match c (.fn ci.init) (.ref h.length :: xs) (h ++ [.ins k []]) with
    | .ok .non h' => if ci.live then .ok (.ref h.length) h' else (match h'[h.length]? with
      | some (.ins k' fs) => if k' = k ∧ h'.length = h.length + 1 then .ok (.obj k fs) (h'.take h.length) else .stuck
      | _ => .stuck)
    | .exc e x h' => .exc e x (h'.take h.length)
    | _ => .stuck)
  | none => .stuck
def eMake (G : Glob) (c : Calls) (k : Nat) (a : DA) : DE := fun env => bind (a env) fun xs => make G c k xs


def iVal (m : DE) : DI := fun env => bind (m env) fun v => match v with
  | .tup xs => ret (.items xs)
  | .lst xs => ret (.items xs)
  | .str s => ret (.items (s.map fun c => .str [c]))
  | .ref n => bind (lstOf (.ref n)) fun _ => ret (.live n)
  | _ => fail
def small62 (i : Int) : Bool := decide (-(2 ^ 62) ≤ i) && decide (i < 2 ^ 62)
def rangeL (lo : Int) (n : Nat) : List AV := (List.range n).map fun (k : Nat) => .int (lo + k)
def rangeC (lo c : Int) (n : Nat) : List AV := (List.range n).map fun (k : Nat) => .int (lo + k * c)
def rangeOf (xs : List AV) : M Src := match xs with
  | [.int j] => if small62 j then ret (.items (rangeL 0 j.toNat)) else fail
  | [.int i, .int j] => if small62 i && small62 j then ret (.items (rangeL i (j - i).toNat)) else fail
  | [.int i, .int j, .int c] => if (decide (0 < c) && decide (c < 1073741824)) && (small62 i && small62 j) then ret (.items (rangeC i c ((j - i + c - 1) / c).toNat)) else fail
  | _ => fail
def iRange1 (a : DE) : DI := fun env => bind (a env) fun v => rangeOf [v]
def iRange2 (a b : DE) : DI := fun env => bind (a env) fun v => bind (b env) fun w => rangeOf [v, w]
def iRange3 (a b c : DE) : DI := fun env => bind (a env) fun v => bind (b env) fun w => bind (c env) fun u => rangeOf [v, w, u]
def enumL (xs : List AV) : List AV := (List.range xs.length).zipWith (fun (k : Nat) x => .tup [.int k, x]) xs
def enumOf (v : AV) : M Src := match v with
  | .tup xs => ret (.items (enumL xs))
  | .lst xs => ret (.items (enumL xs))
  | _ => fail
def iEnum (m : DE) : DI := fun env => bind (m env) enumOf
def zipL (xs ys : List AV) : List AV := xs.zipWith (fun x y => .tup [x, y]) ys
def zipOf (v w : AV) : M Src := match v, w with
  | .tup xs, .tup ys => ret (.items (zipL xs ys))
  | .lst xs, .lst ys => ret (.items (zipL xs ys))
  | _, _ => fail
def iZip (a b : DE) : DI := fun env => bind (a env) fun v => bind (b env) (zipOf v)


def gFail : DG := fun _ _ _ => none
def gName (i : Nat) : DG := fun v env h => some (env.set i (some v), h)
def gAll : List DG → List AV → AEnv → AHp → Option (AEnv × AHp)
  | [], [], env, h => some (env, h)
  | g :: gs, v :: vs, env, h => (match g v env h with
    | some (env', h') => gAll gs vs env' h'
    | none => none)
  | _, _, _, _ => none
def gTup (gs : List DG) : DG := fun v env h => match v with
  | .tup xs => gAll gs xs env h
  | .lst xs => gAll gs xs env h
  | _ => none

def gSub (o i : DE) : DG := fun v env h => match o env h with
  | .ok (.ref n) h1 => (match i env h1 with
    | .ok (.int k) h2 => (match h2[n]? with
      | some (.lst xs) => (match ixN xs.length k with
        | some j => if v.pure then some (env, h2.set n (.lst (xs.set j v))) else none
        | none => none)
      | _ => none)
    | _ => none)
  | _ => none
def putF (f : Str) (v : AV) : List (Str × AV) → List (Str × AV)
  | [] => [(f, v)]
  | (g, x) :: r => if g = f then (g, v) :: r else (g, x) :: putF f v r

def gFld (G : Glob) (f : Str) (o : DE) : DG := fun v env h => match o env h with
  | .ok (.ref n) h1 => (match h1[n]? with
    | some (.ins c fs) => (match G.clss[c]? with
      | some ci => if fs.length < 1000 ∧ v.pure = true ∧ ci.fields.contains f = true then some (env, h1.set n (.ins c (putF f v fs))) else none
      | none => none)
    | _ => none)
  | _ => none


def wipe (own : List Nat) (env : AEnv) : AEnv := own.foldr (fun i e => e.set i none) env
def compL (g : DG) (t : DT) (m : DE) (env : AEnv) : List AV → List AV → M (List AV)
  | [], acc => ret acc
  | x :: xs, acc => fun h => match g x env h with
    | none => .stuck
    | some (env1, h1) => (match t env1 h1 with
      | .ok true h2 => (match m env1 h2 with
        | .ok y h3 => if acc.length < SL then compL g t m env xs (acc ++ [y]) h3 else .stuck
        | _ => .stuck)
      | .ok false h2 => compL g t m env xs acc h2
      | _ => .stuck)
def eComp (own : List Nat) (it : DI) (g : DG) (t : DT) (m : DE) : DE := fun env => bind (it env) fun src => match src with
  | .items xs => bind (compL g t m (wipe own env) xs []) fun ys => ret (.lst ys)
  | .live _ => fail


def sFail : DS := fun _ _ => .stuck
def sNext : DS := fun env h => .nx env h
def sBreak : DS := fun env h => .bk env h
def sCont : DS := fun env h => .ct env h
def sSeq (a b : DS) : DS := fun env h => match a env h with
  | .nx env' h' => b env' h'
  | o => o
def sSeqs : List DS → DS
  | [] => sNext
  | a :: r => sSeq a (sSeqs r)

def outOf {α : Type} (r : Res α) (env : AEnv) (k : α → AHp → Out) : Out := match r with
  | .ok a h => k a h
  | .exc c x h => .exc c x env h
  | .stuck => .stuck
def sDrop (m : DE) : DS := fun env h => outOf (m env h) env fun _ h' => .nx env h'
def sRet (m : DE) : DS := fun env h => outOf (m env h) env fun v h' => .rt v h'
def sRetN : DS := fun _ h => .rt .non h
def sAsg (m : DE) (g : DG) : DS := fun env h => outOf (m env h) env fun v h' => match g v env h' with
  | some (env', h'') => .nx env' h''
  | none => .stuck
def setAll : List Nat → List AV → AEnv → Option AEnv
  | [], [], env => some env
  | i :: is, v :: vs, env => setAll is vs (env.set i (some v))
  | _, _, _ => none

def sPar (is : List Nat) (a : DA) : DS := fun env h => outOf (a env h) env fun vs h' => match setAll is vs env with
  | some env' => .nx env' h'
  | none => .stuck
def sIf (t : DT) (a b : DS) : DS := fun env h => outOf (t env h) env fun c h' => if c then a env h' else b env h'
def forL (g : DG) (b : DS) : List AV → AEnv → AHp → Out
  | [], env, h => .nx env h
  | x :: xs, env, h => match g x env h with
    | none => .stuck
    | some (env1, h1) => (match b env1 h1 with
      | .nx env2 h2 => forL g b xs env2 h2
      | .ct env2 h2 => forL g b xs env2 h2
      | .bk env2 h2 => .nx env2 h2
      | o => o)

def forR (g : DG) (b : DS) (n : Nat) : Nat → Nat → AEnv → AHp → Out
  | 0, _, _, _ => .stuck
  | k + 1, i, env, h => match h[n]? with
    | some (.lst xs) => (match xs[i]? with
      | none => .nx env h
      | some x => (match g x env h with
        | none => .stuck
        | some (env1, h1) => (match b env1 h1 with
          | .nx env2 h2 => forR g b n k (i + 1) env2 h2
          | .ct env2 h2 => forR g b n k (i + 1) env2 h2
          | .bk env2 h2 => .nx env2 h2
          | o => o)))
    | _ => .stuck

abbrev LF : Nat := 1000000
def sFor (it : DI) (g : DG) (b : DS) : DS := fun env h => outOf (it env h) env fun src h' => match src with
  | .items xs => forL g b xs env h'
  | .live n => forR g b n LF 0 env h'
def whileN (t : DT) (b : DS) : Nat → AEnv → AHp → Out
  | 0, _, _ => .stuck
  | k + 1, env, h => outOf (t env h) env fun c h' => if c then (match b env h' with
      | .nx env2 h2 => whileN t b k env2 h2
      | .ct env2 h2 => whileN t b k env2 h2
      | .bk env2 h2 => .nx env2 h2
      | o => o) else .nx env h'
def sWhile (t : DT) (b : DS) : DS := fun env h => whileN t b LF env h
def sRaise (c : Nat) (a : DA) : DS := fun env h => outOf (a env h) env fun vs h' => match vs with
  | [x] => .exc c x env h'
  | _ => .stuck
mutual

def AV.noX : AV → Bool
  | .exc _ _ => false
  | .tup xs | .lst xs => AV.noXs xs
  | .obj _ fs => AV.noXf fs
  | .clo _ cs => AV.noXo cs
  | _ => true
def AV.noXs : List AV → Bool
  | [] => true
  | x :: r => x.noX && AV.noXs r
def AV.noXf : List (Str × AV) → Bool
  | [] => true
  | (_, x) :: r => x.noX && AV.noXf r
def AV.noXo : List (Option AV) → Bool
  | [] => true
  | none :: r => AV.noXo r
  | some x :: r => x.noX && AV.noXo r
end

def wipeX (env : AEnv) : AEnv := env.map fun o => match o with
  | some v => if v.noX then some v else none
  | none => none

def sTry (G : Glob) (d i : Nat) (b u : DS) : DS := fun env h => match b env h with
  | .exc c x env' h' => (match G.excs[c]? with
    | some e => if e.up.contains d then (match u (env'.set i (some (.exc c x))) h' with
        | .nx env2 h2 => .nx (wipeX (env2.set i none)) h2
        | .bk env2 h2 => .bk (wipeX (env2.set i none)) h2
        | .ct env2 h2 => .ct (wipeX (env2.set i none)) h2
        | .rt v h2 => if v.noX then .rt v h2 else .stuck
        | _ => .stuck) else .exc c x env' h'
    | none => .stuck)
  | o => o


def startA (n : Nat) (args : List AV) : AEnv := args.map some ++ List.replicate (n - args.length) none
def back (keep : Bool) (n0 : Nat) (v : AV) (h : AHp) : Res AV :=
  match keep, v with
  | true, .ref k => if n0 ≤ k then (match h[k]? with
      | some o => .ok (.ref n0) (h.take n0 ++ [o])
      | none => .stuck) else .ok (.ref k) (h.take n0)
  | _, v => if (v.frz h n0).old n0 then .ok (v.frz h n0) (h.take n0) else .stuck
def backX (n0 c : Nat) (x : AV) (h : AHp) : Res AV := if (x.frz h n0).pure then .exc c (x.frz h n0) (h.take n0) else .stuck
def callFn (keep : Bool) (np n : Nat) (body : DS) (args : List AV) : M AV := fun h =>
  if args.length = np then match body (startA n args) h with
    | .rt v h' => back keep h.length v h'
    | .nx _ h' => back keep h.length .non h'
    | .exc c x _ h' => backX h.length c x h'
    | _ => .stuck
  else .stuck
def callClo (np nown : Nat) (body : DE) (cs : List (Option AV)) (args : List AV) : M AV := fun h =>
  if args.length = np ∧ AV.noCs args = true ∧ AV.noCo cs = true then match body (args.map some ++ (cs ++ List.replicate nown none)) h with
    | .ok v h' => back false h.length v h'
    | .exc c x h' => backX h.length c x h'
    | .stuck => .stuck
  else .stuck

end Tp

namespace Tp
open PySem

section
variable (G : Glob) (N : List Str) (c : Calls) (cm : Bool)

abbrev ET := DE × DT
def valE (m : DE) : ET := (m, tTruth m)
def etFail : ET := (eFail, fun _ => fail)
def ixOf (x : Str) : Option Nat := N.findIdx? (· == x)
def conV : Const → Option AV
  | .none => some .non
  | .bool b => some (.bl b)
  | .int i => some (.int i)
  | .str s => some (.str s.cps.toList)
  | _ => none
def builtinTys : List (Str × String) := [("int", "int"), ("bool", "bool"), ("str", "str"), ("tuple", "tuple"), ("list", "list"), ("dict", "dict"), ("ValueError", "ValueError")]
def gvV : GV → AV
  | .fn i => .fn i
  | .cls i => .cls i
  | .xcls i => .xcls i
  | .con v => v
def localK : Option NameKind → Bool
  | some .local | some .cell | some .free => true
  | _ => false
def globalK : Option NameKind → Bool
  | some .globalImplicit => true
  | _ => false
def notDebug (x : Str) : Bool := !(x == ("__debug__" : Str)) && !(x == ("__classdict__" : Str)) && !(x == ("__name__" : Str))
def eName (sc : Scope) (x : Str) : DE :=
  if notDebug x then
    if localK (sc.names.lookup x) then (match ixOf N x with
      | some i => eVar i
      | none => eFail)
    else if globalK (sc.names.lookup x) then (match G.names.lookup x with
      | some g => eVal (gvV g)
      | none => (match builtinTys.lookup x with
        | some n => eVal (.ty n)
        | none => eFail))
    else eFail
  else eFail
def isStar : Expr → Bool
  | .Starred _ _ => true
  | _ => false
def isLam : Expr → Bool
  | .Lambda _ _ _ _ => true
  | _ => false
def evArgs (f : Expr → DE) : List Expr → DA
  | [] => aNil
  | .Starred e _ :: r => aStar (f e) (evArgs f r)
  | e :: r => aCons (f e) (evArgs f r)
def evKws (f : Expr → DE) : List Keyword → DA
  | [] => aNil
  | ⟨_, e, _⟩ :: r => aCons (f e) (evKws f r)
def kwNames : List Keyword → Option (List Str)
  | [] => some []
  | ⟨some k, _, _⟩ :: r => (kwNames r).map (k :: ·)
  | _ => none

def plainArgs (args : List Expr) : Bool := !args.any isStar

def lamLast : List Expr → Option (List Expr × Arguments × Expr × Scope × Pos)
  | [] => none
  | [.Lambda a b s p] => some ([], a, b, s, p)
  | e :: r => (lamLast r).map fun q => (e :: q.1, q.2)

def compsOf : Nat → Expr → List Str
  | 0, _ => []
  | n + 1, e => match e with
    | .BoolOp _ es _ => es.flatMap (compsOf n)
    | .BinOp a _ b _ => compsOf n a ++ compsOf n b
    | .UnaryOp _ a _ => compsOf n a
    | .IfExp t a b _ => compsOf n t ++ compsOf n a ++ compsOf n b
    | .Compare a _ bs _ => compsOf n a ++ bs.flatMap (compsOf n)
    | .Call f args kws _ => compsOf n f ++ args.flatMap (compsOf n) ++ kws.flatMap fun k => compsOf n k.value
    | .Tuple es _ _ => es.flatMap (compsOf n)
    | .List es _ => es.flatMap (compsOf n)
    | .Subscript a b _ => compsOf n a ++ compsOf n b
    | .Attribute a _ _ => compsOf n a
    | .Starred a _ => compsOf n a
    | .ListComp e gs sc _ => (sc.names.filterMap fun q => if q.2 == .local then some q.1 else none) ++ compsOf n e ++ gs.flatMap fun g => compsOf n g.iter ++ g.ifs.flatMap (compsOf n)
    | _ => []
def lamOf (params : Arguments) (body : Expr) (scope : Scope) : LamInfo :=
  let ps := params.args.map (·.arg)
  let fr := scope.names.filterMap fun q => if q.2 == .free then some q.1 else none
  { params := params, body := body, scope := scope, ps := ps, fr := fr, own := (compsOf 40 body).eraseDups.filter fun x => !(ps ++ fr).contains x && !(x == (".0" : Str)) }

def plainPs (p : Arguments) : Bool := p.posonlyargs.isEmpty && p.vararg.isNone && p.kwonlyargs.isEmpty && p.kw_defaults.isEmpty && p.kwarg.isNone && p.defaults.isEmpty

def LamInfo.ok (l : LamInfo) : Bool :=
  plainPs l.params && (l.params.args.map (·.arg) == l.ps) && l.scope.kind == .function && !l.scope.isCoroutine && !l.scope.isGenerator && decide l.NN.Nodup && l.ps.all (fun x => l.scope.names.lookup x == some .local) &&
    l.scope.names.all (fun y => !(y.2 == .cell)) && l.scope.names.all (fun y => !(y.2 == .free) || l.fr.contains y.1) && l.fr.all (fun x => l.scope.names.lookup x == some .free)
def lamIn? (l : LamInfo) (sc : Scope) : Bool := l.scope.names.all fun y => !(y.2 == .free) || sc.names.lookup y.1 == some .cell || sc.names.lookup y.1 == some .free
def ixs : List Str → Option (List Nat)
  | [] => some []
  | x :: r => (match ixOf N x, ixs r with
    | some i, some is => some (i :: is)
    | _, _ => none)

def evCallF (lm : Bool) (f : Expr → DE) (sc : Scope) (i : Nat) (args : List Expr) (kws : List Keyword) : DE :=
  if plainArgs args then (match lamLast args with
    | some (init, params, body, scope, _) => if lm && kws.isEmpty && (lamOf params body scope).ok && lamIn? (lamOf params body scope) sc then (match ixs N (lamOf params body scope).fr with
          | some fr => eCallL c i (lamOf params body scope) fr (evArgs f init)
          | none => eFail) else eFail
    | none => if kws.isEmpty then eCall c i (evArgs f args) else (match kwNames kws, G.fns[i]? with
      | some ks, some fi => eCallK c i fi.ps ks (evArgs f args) (evKws f kws)
      | _, _ => eFail))
  else eFail

def BF.calm : BF → Bool
  | .max | .min | .sum | .all | .any => true
  | _ => false

def evCallN (lm : Bool) (f : Expr → DE) (sc : Scope) (x : Str) (args : List Expr) (kws : List Keyword) : DE :=
  if notDebug x then
    if localK (sc.names.lookup x) then (if cm && kws.isEmpty && plainArgs args then (match ixOf N x with
      | some i => eCallV c (eVar i) (evArgs f args)
      | none => eFail) else eFail)
    else if globalK (sc.names.lookup x) then (match G.names.lookup x with
      | some (.fn i) => if cm then evCallF G N c lm f sc i args kws else eFail
      | some _ => eFail
      | none => (match bfOf.lookup x with
        | some b => if kws.isEmpty && plainArgs args && !args.isEmpty && (cm || !b.calm) then eBlt G b (evArgs f args) else eFail
        | none => eFail))
    else eFail
  else eFail
def noSuper : Expr → Bool
  | .Call (.Name x _) [] [] _ => !(x == ("super" : Str))
  | _ => true

def evMeth (f : Expr → DE) (o : Expr) (m : Str) (args : List Expr) (kws : List Keyword) : DE :=
  if plainArgs args && noSuper o && decide (args.length + kws.length < 25) then
    (if kws.isEmpty then
      (match mfOf.lookup m with
       | some mf => if args.isEmpty then eFail else eMeth mf (f o) (evArgs f args)
       | none => eFail)
    else eFail)
  else eFail
def relS (scope sc : Scope) : Scope :=
  { scope with names := scope.names.map fun (n, k) => if (k == .free && sc.kind == .function && sc.names.lookup n == some .cell) then (n, .cell) else (n, k) }

def ownP (scope : Scope) : List (Str × Nat) := scope.names.filterMap fun q => if q.2 == .local || q.2 == .cell then (ixOf N q.1).map fun i => (q.1, i) else none
def ownOf (scope : Scope) : List Nat := (ownP N scope).map (·.2)
def blkB (sc scope : Scope) : Bool :=
  scope.kind == .function && scope.names.all (fun y => scope.names.lookup y.1 == some y.2) && scope.names.all fun y => !(y.2 == .free) || sc.names.lookup y.1 == some .cell || sc.names.lookup y.1 == some .free
def noSet : Expr → Bool
  | .Set _ _ _ => false
  | _ => true
def isTupE : Expr → Bool
  | .Tuple _ _ _ => true
  | _ => false

def evIter (f : Expr → DE) (sc : Scope) (tg it : Expr) : DI := match it with
  | .Call (.Name x p) args [] p2 =>
    if globalK (sc.names.lookup x) && (G.names.lookup x).isNone && plainArgs args then
      (if x == ("range" : Str) then (match args with
         | [a] => iRange1 (f a)
         | [a, b] => iRange2 (f a) (f b)
         | [a, b, d] => iRange3 (f a) (f b) (f d)
         | _ => fun _ => fail)
       else if x == ("enumerate" : Str) then (match args with
         | [e] => if isTupE tg then iEnum (f e) else fun _ => fail
         | _ => fun _ => fail)
       else if x == ("zip" : Str) then (match args with
         | [a, b] => if isTupE tg then iZip (f a) (f b) else fun _ => fail
         | _ => fun _ => fail)
       else iVal (f (.Call (.Name x p) args [] p2)))
    else iVal (f (.Call (.Name x p) args [] p2))
  | it => if noSet it then iVal (f it) else fun _ => fail
def evTgts (g : Expr → DG) : List Expr → List DG
  | [] => []
  | e :: r => (if isStar e then gFail else g e) :: evTgts g r

def evTgt (f : Expr → DE) (sc : Scope) (own : List Nat) (blk : Bool) : Nat → Expr → DG
  | 0, _ => gFail
  | n + 1, tg => match tg with
    | .Name x _ => if sc.names.lookup x == some .local || (!blk && sc.names.lookup x == some .cell) then (match ixOf N x with
      | some i => if own.contains i then gName i else gFail
      | none => gFail) else gFail
    | .Tuple es _ _ => if cm && plainArgs es then gTup (evTgts (evTgt f sc own blk n) es) else gFail
    | .Subscript o i _ => if blk then gFail else (match i with
      | .Slice _ _ _ _ => gFail
      | i => gSub (f o) (f i))
    | .Attribute o a _ => if blk || !noSuper o then gFail else gFld G a (f o)
    | _ => gFail
def one? : List CmpOp → List Expr → Option (CmpOp × Expr)
  | [op], [b] => some (op, b)
  | _, _ => none
def two? : List CmpOp → List Expr → Option (CmpOp × CmpOp × Expr × Expr)
  | [op, op'], [b, c] => some (op, op', b, c)
  | _, _ => none
def evPart (f : Expr → DE) : Option Expr → DP
  | none => pNo
  | some e => pAt (f e)
def evSub (f : Expr → DE) (o : Expr) : Expr → DE
  | .Slice lo hi none _ => eSl (f o) (evPart f lo) (evPart f hi)
  | .Slice _ _ (some _) _ => eFail
  | i => eIx (f o) (f i)
def evCall (lm : Bool) (f : Expr → DE) (sc : Scope) (fe : Expr) (args : List Expr) (kws : List Keyword) (pos : Pos) : DE := match fe with
  | .Name x _ => evCallN G N c cm lm f sc x args kws
  | .Attribute o m apos => if apos.endLine == pos.line then evMeth f o m args kws else eFail
  | _ => eFail
def evTests (f : Expr → DT) : List Expr → DT
  | [] => fun _ => ret true
  | [t] => f t
  | _ => fun _ => fail
def evE : Nat → Bool → Scope → Expr → ET
  | 0, _, _, _ => etFail
  | n + 1, lm, sc, e => match e with
    | .Constant k _ _ => (match conV k with
      | some v => valE (eVal v)
      | none => etFail)
    | .Name x _ => valE (eName G N sc x)
    | .BoolOp .And es _ => if es.isEmpty then etFail else (eAnd (es.map fun a => (evE n lm sc a).1), tAnd (es.map fun a => (evE n lm sc a).2))
    | .BoolOp .Or es _ => if es.isEmpty then etFail else (eOr (es.map fun a => (evE n lm sc a).1), tOr (es.map fun a => (evE n lm sc a).2))
    | .BinOp a op b _ => valE (eBin op (evE n lm sc a).1 (evE n lm sc b).1)
    | .UnaryOp .Not a _ => (eNot (evE n lm sc a).1, tNot (evE n lm sc a).2)
    | .UnaryOp .USub a _ => valE (eNeg (evE n lm sc a).1)
    | .IfExp t a b _ => (eIf (evE n lm sc t).2 (evE n lm sc a).1 (evE n lm sc b).1, tIf (evE n lm sc t).2 (evE n lm sc a).2 (evE n lm sc b).2)
    | .Compare a [op] [b] _ => if noSet b then (eCmp op (evE n lm sc a).1 (evE n lm sc b).1, tB (eCmp op (evE n lm sc a).1 (evE n lm sc b).1)) else etFail
    | .Compare a [op, op'] [b, d] _ => if noSet d then (eChain op op' (evE n lm sc a).1 (evE n lm sc b).1 (evE n lm sc d).1, tB (eChain op op' (evE n lm sc a).1 (evE n lm sc b).1 (evE n lm sc d).1)) else etFail
    | .Tuple es _ _ => valE (eTup (evArgs (fun a => (evE n lm sc a).1) es))
    | .List es p => valE (if G.muts.contains (p.line, p.col) then eNew (evArgs (fun a => (evE n lm sc a).1) es) else eLst (evArgs (fun a => (evE n lm sc a).1) es))
    | .Subscript o i _ => valE (evSub (fun a => (evE n lm sc a).1) o i)
    | .Call fe args kws pos => valE (evCall G N c cm lm (fun a => (evE n lm sc a).1) sc fe args kws pos)
    | .Attribute o f _ => valE (if noSuper o then eAttrX G f (evE n lm sc o).1 else eFail)
    | .ListComp elt [⟨tg, it, ifs, ia⟩] scope _ => valE (
        if cm && (blkB sc scope && (noSet it && decide (ia = 0))) then
          eComp (ownOf N scope) (evIter G (fun a => (evE n lm sc a).1) sc tg it) (evTgt G N cm (fun a => (evE n false (relS scope sc) a).1) (relS scope sc) (ownOf N scope) true 8 tg)
            (evTests (fun a => (evE n false (relS scope sc) a).2) ifs) (evE n false (relS scope sc) elt).1
        else eFail)
    | _ => etFail


def parNames (sc : Scope) (ts : List Expr) : List Str := ts.filterMap fun t => match t with
  | .Name x p => if sc.names.lookup x == some .local && p.line == (ts.head?.map (·.pos.line)).getD 0 then some x else none
  | _ => none

def swN (sc : Scope) (ts vs : List Expr) : Bool :=
  !(ts.length == 2 || ts.length == 3) || vs.length != ts.length || vs.any isStar || (parNames sc ts).length != ts.length || (parNames sc ts).eraseDups.length != (parNames sc ts).length || vs.all (foldedForSure 8)
def isComp : Expr → Bool
  | .ListComp .. => true
  | .SetComp .. => true
  | .DictComp .. => true
  | _ => false
def evStmts (s : Stmt → DS) : List Stmt → List DS
  | [] => []
  | st :: r => s st :: evStmts s r
def AD : Nat := 40
def allN : List Nat := List.range N.length
def excOf (x : Str) (sc : Scope) : Option Nat := if globalK (sc.names.lookup x) && notDebug x then (match G.names.lookup x with
  | some (.xcls k) => some k
  | _ => none) else none

def badAsg : Expr → Expr → Bool
  | .Starred _ _, _ => true
  | .List _ _, _ => true
  | .Name _ _, v => isComp v
  | _, _ => false
def evAsg (lm : Bool) (sc : Scope) (tg v : Expr) : DS := match tg, v with
  | .Tuple ts k p, .Tuple vs k2 p2 =>
    if swN sc ts vs then sAsg (evE G N c cm AD lm sc (.Tuple vs k2 p2)).1 (evTgt G N cm (fun a => (evE G N c cm AD lm sc a).1) sc (allN N) false 8 (.Tuple ts k p))
    else if cm && !vs.all (constantsAlone 8) && ts.length == 2 then (match ixs N (parNames sc ts) with
      | some is => sPar is (evArgs (fun a => (evE G N c cm AD lm sc a).1) vs)
      | none => sFail)
    else sFail
  | .Name y q, .ListComp a b s p => if sc.names.lookup y == some .local then (match ixOf N y with
      | some i => sAsg (evE G N c cm AD lm sc (.ListComp a b s p)).1 (gName i)
      | none => sFail) else sAsg (evE G N c cm AD lm sc (.ListComp a b s p)).1 (evTgt G N cm (fun a => (evE G N c cm AD lm sc a).1) sc (allN N) false 8 (.Name y q))
  | tg, v => if badAsg tg v then sFail else sAsg (evE G N c cm AD lm sc v).1 (evTgt G N cm (fun a => (evE G N c cm AD lm sc a).1) sc (allN N) false 8 tg)

def evRaise (f : Expr → DE) (sc : Scope) : Expr → DS
  | .Call (.Name x _) [a] [] _ => (match excOf G x sc with
    | some k => if isStar a || ((G.excs[k]?).bind (·.field)).isNone then sFail else sRaise k (aCons (f a) aNil)
    | none => sFail)
  | _ => sFail
end
section
variable (G : Glob) (N : List Str)
def evS (c : Calls) (cm lm : Bool) (sc : Scope) : Nat → Stmt → DS
  | 0, _ => sFail
  | n + 1, st => match st with
    | .Expr (.Constant (.str _) _ _) _ => sNext
    | .Expr e _ => if isComp e then sFail else sDrop (evE G N c cm AD lm sc e).1
    | .Pass _ => sNext
    | .Break _ => sBreak
    | .Continue _ => sCont
    | .Return (some e) _ => sRet (evE G N c cm AD lm sc e).1
    | .Return none _ => sRetN
    | .Assign [tg] v _ => evAsg G N c cm lm sc tg v
    | .If t a b _ => sIf (evE G N c cm AD lm sc t).2 (sSeqs (evStmts (evS c cm lm sc n) a)) (sSeqs (evStmts (evS c cm lm sc n) b))
    | .For tg it b [] _ => if cm && noSet it then sFor (evIter G (fun a => (evE G N c cm AD lm sc a).1) sc tg it) (evTgt G N cm (fun a => (evE G N c cm AD lm sc a).1) sc (allN N) false 8 tg) (sSeqs (evStmts (evS c cm lm sc n) b)) else sFail
    | .While t b [] _ => if cm then sWhile (evE G N c cm AD lm sc t).2 (sSeqs (evStmts (evS c cm lm sc n) b)) else sFail
    | .Raise (some e) none _ => if cm then evRaise G (fun a => (evE G N c cm AD lm sc a).1) sc e else sFail
    | .Try b [.ExceptHandler (some (.Name x _)) (some y) (u0 :: us) _] [] [] _ => if cm then (match excOf G x sc, ixOf N y with
      | some k, some i => if sc.names.lookup y == some .local then sTry G k i (sSeqs (evStmts (evS c cm lm sc n) b)) (sSeqs (evStmts (evS (fun _ _ => fail) false false sc n) (u0 :: us))) else sFail
      | _, _ => sFail) else sFail
    | _ => sFail
def evSs (c : Calls) (lm : Bool) (sc : Scope) (b : List Stmt) : DS := sSeqs (evStmts (evS G N c true lm sc AD) b)
end
def callN (G : Glob) : Nat → Calls
  | 0, _, _ => fail
  | n + 1, .fn i, args => (match G.fns[i]? with
    | some fi => callFn fi.keep fi.ps.length fi.N.length (evSs G fi.N (callN G n) fi.lam fi.scope fi.body) args
    | none => fail)
  | n + 1, .clo l cs, args => callClo l.ps.length l.own.length (evE G l.NN (callN G n) true AD false l.scope l.body).1 cs args
end Tp
namespace Tp
open PySem

def dBody : Stmt → List Stmt
  | .FunctionDef _ _ b _ _ _ _ _ _ _ => b
  | _ => []
def dScope : Stmt → Scope
  | .FunctionDef _ _ _ _ _ _ sc _ _ _ => sc
  | _ => ⟨.module, [], false, false, []⟩
def dArgs : Stmt → Arguments
  | .FunctionDef _ a _ _ _ _ _ _ _ _ => a
  | _ => ⟨[], [], none, [], [], none, []⟩
def sub : Stmt → Nat → Stmt
  | .ClassDef _ _ _ b _ _ _ _ _ _ _, i => b.getD i (.Pass ⟨0, 0, 0, 0⟩)
  | s, _ => s
abbrev LamS := Expr × Scope
def orL {α : Type} : Option α → (Unit → Option α) → Option α
  | some a, _ => some a
  | none, f => f ()

def lamE (l c : Nat) : Nat → Expr → Option LamS
  | 0, _ => none
  | n + 1, e => match e with
    | .Lambda _ b s p => if p.line == l && p.col == c then some (b, s) else lamE l c n b
    | .BoolOp _ es _ => es.findSome? (lamE l c n)
    | .BinOp a _ b _ => orL (lamE l c n a) fun _ => lamE l c n b
    | .UnaryOp _ a _ => lamE l c n a
    | .IfExp a b d _ => orL (lamE l c n a) fun _ => orL (lamE l c n b) fun _ => lamE l c n d
    | .Compare a _ bs _ => orL (lamE l c n a) fun _ => bs.findSome? (lamE l c n)
    | .Call f args kws _ => orL (lamE l c n f) fun _ => orL (args.findSome? (lamE l c n)) fun _ => kws.findSome? fun k => lamE l c n k.value
    | .Tuple es _ _ => es.findSome? (lamE l c n)
    | .List es _ => es.findSome? (lamE l c n)
    | .Subscript a b _ => orL (lamE l c n a) fun _ => lamE l c n b
    | .Attribute a _ _ => lamE l c n a
    | .Starred a _ => lamE l c n a
    | .ListComp e gs _ _ => orL (lamE l c n e) fun _ => gs.findSome? fun g => orL (lamE l c n g.iter) fun _ => g.ifs.findSome? (lamE l c n)
    | _ => none
def lamSt (l c : Nat) : Nat → Stmt → Option LamS
  | 0, _ => none
  | n + 1, st => match st with
    | .Expr e _ => lamE l c 40 e
    | .Return (some e) _ => lamE l c 40 e
    | .Assign _ e _ => lamE l c 40 e
    | .If t a b _ => orL (lamE l c 40 t) fun _ => orL (a.findSome? (lamSt l c n)) fun _ => b.findSome? (lamSt l c n)
    | .For _ it a b _ => orL (lamE l c 40 it) fun _ => orL (a.findSome? (lamSt l c n)) fun _ => b.findSome? (lamSt l c n)
    | .While t a b _ => orL (lamE l c 40 t) fun _ => orL (a.findSome? (lamSt l c n)) fun _ => b.findSome? (lamSt l c n)
    | .Raise (some e) _ _ => lamE l c 40 e
    | .Try a hs b d _ => orL (a.findSome? (lamSt l c n)) fun _ => orL (hs.findSome? fun h => match h with
        | .ExceptHandler _ _ u _ => u.findSome? (lamSt l c n)) fun _ => orL (b.findSome? (lamSt l c n)) fun _ => d.findSome? (lamSt l c n)
    | _ => none
def lamIn (st : Stmt) (l c : Nat) : LamS := ((dBody st).findSome? (lamSt l c 40)).getD (.Constant .none 0 ⟨0, 0, 0, 0⟩, ⟨.module, [], false, false, []⟩)
end Tp
end
section
set_option Elab.async false
set_option linter.all false
set_option maxRecDepth 100000
set_option maxHeartbeats 1000000

namespace Tp
open PySem PySem.Spec PyProof.Rows L2


structure Rx where
  K : PySem.W.Frag
  base : Heap
  G : Glob
  fa : Nat → Addr
  ca : Nat → Addr
  xa : Nat → Addr
  
  T : List (Addr × Str)
  ex : Option (Addr × Value × Option Addr)
  
  hid : List Addr

def Off (R : Rx) (μ : List Addr) (a : Addr) : Prop := a ∉ μ ∧ a ∉ R.hid


def CellIs (R : Rx) (μ : List Addr) (H : Hp) (c : Addr) (w : Option Value) : Prop :=
  ∃ co : Obj, co.data = .cell w ∧ ((H c = some (.frz co (.own 0)) ∧ c ∉ μ) ∨ R.base.get? c = some co)

def CloAt (R : Rx) (μ : List Addr) (H : Hp) (l : LamInfo) (f : Addr) (ws : List (Option V)) : Prop :=
  ∃ (qual : Str) (cl : List (Str × Addr)) (pm ctv : Value) (c' : Addr),
    l.ok = true ∧ H f = some (.frz (PySem.W.kla_obj "<lambda>" qual l.params l.body l.scope cl pm c' ctv) (.own 0)) ∧
    H c' = some (LamX.CodeO c' qual) ∧ f ∉ μ ∧ c' ∉ μ ∧
    ws.length = l.fr.length ∧ (∀ x y c, cl.lookup x = some c → cl.lookup y = some c → x = y) ∧ (∀ y c, cl.lookup y = some c → ∃ w, CellIs R μ H c w) ∧
    ∀ (k : Nat) (y : Str), l.fr[k]? = some y → ∃ c, cl.lookup y = some c ∧ ∀ v, ws[k]? = some (some v) → ∃ uv, RelV v uv ∧ CellIs R μ H c (some uv)

mutual

def Rep (R : Rx) (μ : List Addr) (H : Hp) : AV → V → Prop
  | .non, v => v = .non
  | .bl b, v => v = .bl b
  | .int i, v => v = .int i
  | .str s, v => v = .str ⟨s.toArray⟩
  | .tup xs, v => ∃ a vs, v = .ref a ∧ SqT R.K H a vs ∧ RepL R μ H xs vs
  | .lst xs, v => ∃ a vs, v = .ref a ∧ Rd H a (.lst vs) ∧ Off R μ a ∧ RepL R μ H xs vs
  | .ref n, v => ∃ a, μ[n]? = some a ∧ v = .ref a
  | .fn i, v => v = .ref (R.fa i) ∧ i < R.G.fns.length
  | .cls i, v => v = .ref (R.ca i) ∧ i < R.G.clss.length
  | .xcls i, v => v = .ref (R.xa i) ∧ i < R.G.excs.length
  | .ty n, v => v = .ty n
  | .exc c x, v => ∃ a d f u, R.ex = some (a, .ref (R.xa c), some d) ∧ v = .ref a ∧ (R.G.excs[c]?).bind (·.field) = some f ∧ H d = some (.xd [(f, u)]) ∧ d ∉ μ ∧ Rep R μ H x u
  | .obj c fs, v => ∃ a dx fs', v = .ref a ∧ H a = some (.ins (R.ca c) dx fs') ∧ a ∉ μ ∧ c < R.G.clss.length ∧ RepF R μ H fs fs'
  | .clo l cs, v => ∃ f ws, v = .ref f ∧ CloAt R μ H l f ws ∧ RepO R μ H cs ws
  | .dct _, _ => False
def RepL (R : Rx) (μ : List Addr) (H : Hp) : List AV → List V → Prop
  | [], vs => vs = []
  | x :: xs, vs => ∃ v r, vs = v :: r ∧ Rep R μ H x v ∧ RepL R μ H xs r
def RepF (R : Rx) (μ : List Addr) (H : Hp) : List (Str × AV) → List (Str × V) → Prop
  | [], vs => vs = []
  | (f, x) :: xs, vs => ∃ v r, vs = (f, v) :: r ∧ Rep R μ H x v ∧ RepF R μ H xs r
def RepO (R : Rx) (μ : List Addr) (H : Hp) : List (Option AV) → List (Option V) → Prop
  | [], vs => vs = []
  | none :: xs, vs => ∃ v r, vs = v :: r ∧ RepO R μ H xs r
  | some x :: xs, vs => ∃ v r, vs = some v :: r ∧ Rep R μ H x v ∧ RepO R μ H xs r
end


def ObjRep (R : Rx) (μ : List Addr) (H : Hp) : AObj → Addr → Prop
  | .lst xs, a => ∃ vs, H a = some (.lst vs) ∧ RepL R μ H xs vs ∧ AV.pureAll xs = true
  | .ins c fs, a => ∃ dx fs', H a = some (.ins (R.ca c) dx fs') ∧ c < R.G.clss.length ∧ RepF R μ H fs fs' ∧ AV.pureF fs = true
  | .dct _, _ => False


structure Ev (μ : List Addr) (H : Hp) (μ' : List Addr) (H' : Hp) : Prop where
  pre : ∃ ext, μ' = μ ++ ext ∧ ∀ a ∈ ext, H a = none
  keep : ∀ a o, H a = some o → a ∉ μ → (∀ ps, o ≠ .tbl ps) → H' a = some o
  there : ∀ a o, H a = some o → ∃ o', H' a = some o'
theorem Ev.refl (μ : List Addr) (H : Hp) : Ev μ H μ H := ⟨⟨[], by simp, fun a h => by cases h⟩, fun _ _ h _ _ => h, fun _ o h => ⟨o, h⟩⟩
section
variable {R : Rx} {μ μ1 μ2 : List Addr} {H H1 H2 : Hp}
theorem Ev.notin (a : Ev μ H μ1 H1) {b : Addr} {o : HO} (h : H b = some o) (n : b ∉ μ) : b ∉ μ1 := by
  obtain ⟨e, rfl, hn⟩ := a.pre
  intro z
  rcases List.mem_append.mp z with z | z
  · exact n z
  · rw [hn b z] at h; cases h
theorem Ev.trans (a : Ev μ H μ1 H1) (b : Ev μ1 H1 μ2 H2) : Ev μ H μ2 H2 := by
  refine ⟨?_, fun c o h n t => b.keep c o (a.keep c o h n t) (a.notin h n) t, fun c o h => ?_⟩
  · obtain ⟨e1, rfl, n1⟩ := a.pre
    obtain ⟨e2, rfl, n2⟩ := b.pre
    refine ⟨e1 ++ e2, by simp, fun c h => ?_⟩
    rcases List.mem_append.mp h with h | h
    · exact n1 c h
    · cases q : H c with
      | none => rfl
      | some o =>
        obtain ⟨o', z⟩ := a.there c o q
        rw [n2 c h] at z; cases z
  · obtain ⟨o', z⟩ := a.there c o h
    exact b.there c o' z

theorem Ev.new {p : Addr} {o : HO} (hp : H p = none) : Ev μ H μ (upd H p o) :=
  ⟨⟨[], by simp, fun a h => by cases h⟩, fun a u h _ _ => by rw [upd_ne (ne_of_none h hp)]; exact h, fun a u h => ⟨u, by rw [upd_ne (ne_of_none h hp)]; exact h⟩⟩

theorem Ev.cell {p : Addr} {o : HO} (hp : H p = none) : Ev μ H (μ ++ [p]) (upd H p o) :=
  ⟨⟨[p], rfl, fun a h => by simp at h; rw [h]; exact hp⟩, fun a u h _ _ => by rw [upd_ne (ne_of_none h hp)]; exact h, fun a u h => ⟨u, by rw [upd_ne (ne_of_none h hp)]; exact h⟩⟩

theorem Ev.write {p : Addr} {o : HO} (hp : p ∈ μ) : Ev μ H μ (upd H p o) :=
  ⟨⟨[], by simp, fun a h => by cases h⟩, fun a u h n _ => by rw [upd_ne (fun z => n (by rw [z]; exact hp))]; exact h, fun a u h => by
    by_cases e : a = p
    · rw [e, upd_same]; exact ⟨o, rfl⟩
    · exact ⟨u, by rw [upd_ne e]; exact h⟩⟩

theorem Rd.ev {a : Addr} {u : HO} (r : Rd H a u) (e : Ev μ H μ1 H1) (n : a ∉ μ) (t : ∀ ps, u ≠ .tbl ps) : Rd H1 a u := by
  rcases r with r | ⟨o, r⟩
  · exact .inl (e.keep a u r n t)
  · exact .inr ⟨o, e.keep a _ r n fun ps z => by cases z⟩
theorem Rd.there {a : Addr} {u : HO} (r : Rd H a u) : ∃ o, H a = some o := by
  rcases r with r | ⟨o, r⟩
  · exact ⟨_, r⟩
  · exact ⟨_, r⟩

def CellsOk (μ : List Addr) (H : Hp) : Prop := ∀ a ∈ μ, (∃ xs, H a = some (.lst xs)) ∨ (∃ C dx fs, H a = some (.ins C dx fs)) ∨ (∃ kvs, H a = some (.dK kvs)) ∨ ∃ kvs, H a = some (.dT kvs)
theorem CellsOk.tup (c : CellsOk μ H) {a : Addr} {xs : List V} (h : Rd H a (.tup xs)) : a ∉ μ := by
  intro z
  rcases c a z with ⟨_, e⟩ | ⟨_, _, _, e⟩ | ⟨_, e⟩ | ⟨_, e⟩ <;> rcases h with h | ⟨_, h⟩ <;> rw [e] at h <;> cases h
theorem SqT.ev {K : PySem.W.Frag} {a : Addr} {xs : List V} (h : SqT K H a xs) (c : CellsOk μ H) (e : Ev μ H μ1 H1) : SqT K H1 a xs := by
  rcases h with h | h
  · exact .inl (Rd.ev h e (c.tup h) fun ps z => by cases z)
  · exact .inr h
theorem CellIs.ev {c : Addr} {w : Option Value} (h : CellIs R μ H c w) (e : Ev μ H μ1 H1) : CellIs R μ1 H1 c w := by
  obtain ⟨co, d, q⟩ := h
  rcases q with ⟨q, n⟩ | q
  · exact ⟨co, d, .inl ⟨e.keep c _ q n (fun ps z => by cases z), e.notin q n⟩⟩
  · exact ⟨co, d, .inr q⟩
theorem CloAt.ev {l : LamInfo} {f : Addr} {ws : List (Option V)} (h : CloAt R μ H l f ws) (e : Ev μ H μ1 H1) : CloAt R μ1 H1 l f ws := by
  obtain ⟨qual, cl, pm, ctv, c', h1, h2, h3, n1, n2, hl, inj, hc, hk⟩ := h
  refine ⟨qual, cl, pm, ctv, c', h1, e.keep f _ h2 n1 (fun ps z => by cases z), e.keep c' _ h3 n2 (fun ps z => by unfold LamX.CodeO at z; cases z), e.notin h2 n1, e.notin h3 n2, hl, inj, fun y c q => ?_, fun k y q => ?_⟩
  · obtain ⟨w, q2⟩ := hc y c q
    exact ⟨w, q2.ev e⟩
  · obtain ⟨c, q1, q2⟩ := hk k y q
    refine ⟨c, q1, fun v hv => ?_⟩
    obtain ⟨uv, r, q3⟩ := q2 v hv
    exact ⟨uv, r, q3.ev e⟩
mutual
theorem Rep.ev (c : CellsOk μ H) (e : Ev μ H μ1 H1) : ∀ {av : AV} {v : V}, Rep R μ H av v → Rep R μ1 H1 av v
  | .non, _, h => h
  | .bl _, _, h => h
  | .int _, _, h => h
  | .str _, _, h => h
  | .tup xs, v, h => by
    obtain ⟨a, vs, e1, h1, h2⟩ := h
    exact ⟨a, vs, e1, SqT.ev h1 c e, RepL.ev c e h2⟩
  | .lst xs, v, h => by
    obtain ⟨a, vs, e1, h1, n, h2⟩ := h
    obtain ⟨o, z⟩ := Rd.there h1
    exact ⟨a, vs, e1, Rd.ev h1 e n.1 (fun ps z => by cases z), ⟨e.notin z n.1, n.2⟩, RepL.ev c e h2⟩
  | .ref n, v, h => by
    obtain ⟨a, h1, e1⟩ := h
    obtain ⟨x, ex, _⟩ := e.pre
    exact ⟨a, by rw [ex, List.getElem?_append_left (List.getElem?_eq_some_iff.mp h1).1]; exact h1, e1⟩
  | .fn _, _, h => h
  | .cls _, _, h => h
  | .xcls _, _, h => h
  | .ty _, _, h => h
  | .exc k x, v, h => by
    obtain ⟨a, d, f, u, h1, h2, h3, h4, n, h5⟩ := h
    exact ⟨a, d, f, u, h1, h2, h3, e.keep d _ h4 n (fun ps z => by cases z), e.notin h4 n, Rep.ev c e h5⟩
  | .obj k fs, v, h => by
    obtain ⟨a, dx, fs', e1, h1, n, k1, h2⟩ := h
    exact ⟨a, dx, fs', e1, e.keep a _ h1 n (fun ps z => by cases z), e.notin h1 n, k1, RepF.ev c e h2⟩
  | .clo i cs, v, h => by
    obtain ⟨f, ws, e1, h1, h2⟩ := h
    exact ⟨f, ws, e1, h1.ev e, RepO.ev c e h2⟩
  | .dct _, _, h => h
theorem RepL.ev (c : CellsOk μ H) (e : Ev μ H μ1 H1) : ∀ {xs : List AV} {vs : List V}, RepL R μ H xs vs → RepL R μ1 H1 xs vs
  | [], _, h => h
  | x :: xs, vs, h => by
    obtain ⟨v, r, e1, h1, h2⟩ := h
    exact ⟨v, r, e1, Rep.ev c e h1, RepL.ev c e h2⟩
theorem RepF.ev (c : CellsOk μ H) (e : Ev μ H μ1 H1) : ∀ {xs : List (Str × AV)} {vs : List (Str × V)}, RepF R μ H xs vs → RepF R μ1 H1 xs vs
  | [], _, h => h
  | (f, x) :: xs, vs, h => by
    obtain ⟨v, r, e1, h1, h2⟩ := h
    exact ⟨v, r, e1, Rep.ev c e h1, RepF.ev c e h2⟩
theorem RepO.ev (c : CellsOk μ H) (e : Ev μ H μ1 H1) : ∀ {xs : List (Option AV)} {vs : List (Option V)}, RepO R μ H xs vs → RepO R μ1 H1 xs vs
  | [], _, h => h
  | none :: xs, vs, h => by
    obtain ⟨v, r, e1, h2⟩ := h
    exact ⟨v, r, e1, RepO.ev c e h2⟩
  | some x :: xs, vs, h => by
    obtain ⟨v, r, e1, h1, h2⟩ := h
    exact ⟨v, r, e1, Rep.ev c e h1, RepO.ev c e h2⟩
end
end



structure HRel (R : Rx) (μ : List Addr) (h : AHp) (H : Hp) : Prop where
  len : μ.length = h.length
  nd : μ.Nodup
  obj : ∀ (i : Nat) (o : AObj) (a : Addr), h[i]? = some o → μ[i]? = some a → ObjRep R μ H o a
  tabs : LamX.Tabs R.T H
  hid : ∀ a ∈ R.hid, a ∉ μ ∧ ∃ xs, H a = some (.lst xs)
theorem HRel.cells {R : Rx} {μ : List Addr} {h : AHp} {H : Hp} (r : HRel R μ h H) : CellsOk μ H := fun a ha => by
  obtain ⟨i, hi⟩ := List.getElem?_of_mem ha
  have hl : i < h.length := by rw [← r.len]; exact (List.getElem?_eq_some_iff.mp hi).1
  have q := r.obj i h[i] a (by simp [hl]) hi
  cases e : h[i] with
  | lst xs =>
    rw [e] at q
    obtain ⟨vs, z, _⟩ := q
    exact .inl ⟨vs, z⟩
  | ins c fs =>
    rw [e] at q
    obtain ⟨dx, fs', z, _⟩ := q
    exact .inr (.inl ⟨_, dx, fs', z⟩)
  | dct kvs =>
    rw [e] at q
    exact q.elim

structure SRel (R : Rx) (μ : List Addr) (env : AEnv) (H : Hp) (σ : L2.St) : Prop where
  len : env.length = σ.length
  slot : ∀ (i : Nat) (av : AV), env[i]? = some (some av) → ∃ v, σ[i]? = some (some v) ∧ Rep R μ H av v
theorem SRel.ev {R : Rx} {μ μ1 : List Addr} {env : AEnv} {H H1 : Hp} {σ : L2.St} (s : SRel R μ env H σ) (c : CellsOk μ H) (e : Ev μ H μ1 H1) : SRel R μ1 env H1 σ :=
  ⟨s.len, fun i av q => let ⟨v, h1, h2⟩ := s.slot i av q; ⟨v, h1, h2.ev c e⟩⟩
theorem SRel.set {R : Rx} {μ : List Addr} {env : AEnv} {H : Hp} {σ : L2.St} {av : AV} {v : V} (s : SRel R μ env H σ) (i : Nat) (r : Rep R μ H av v) : SRel R μ (env.set i (some av)) H (σ.set i (some v)) := by
  refine ⟨by rw [List.length_set, List.length_set, s.len], fun j bv q => ?_⟩
  by_cases e : i = j
  · subst e
    by_cases hl : i < env.length
    · rw [List.getElem?_set_self hl] at q
      cases q
      exact ⟨v, by rw [List.getElem?_set_self (by rw [← s.len]; exact hl)], r⟩
    · rw [List.getElem?_eq_none (by rw [List.length_set]; omega)] at q
      cases q
  · rw [List.getElem?_set_ne e] at q ⊢
    exact s.slot j bv q
theorem SRel.unset {R : Rx} {μ : List Addr} {env : AEnv} {H : Hp} {σ : L2.St} (s : SRel R μ env H σ) (i : Nat) : SRel R μ (env.set i none) H (σ.set i none) := by
  refine ⟨by rw [List.length_set, List.length_set, s.len], fun j bv q => ?_⟩
  by_cases e : i = j
  · subst e
    by_cases hl : i < env.length
    · rw [List.getElem?_set_self hl] at q
      cases q
    · rw [List.getElem?_eq_none (by rw [List.length_set]; omega)] at q
      cases q
  · rw [List.getElem?_set_ne e] at q ⊢
    exact s.slot j bv q

def ExcRep (R : Rx) (μ : List Addr) (H : Hp) (c : Nat) (x : AV) (cls : Value) (d : Option Addr) : Prop :=
  cls = .ref (R.xa c) ∧ ∃ dd f u, d = some dd ∧ (R.G.excs[c]?).bind (·.field) = some f ∧ H dd = some (.xd [(f, u)]) ∧ dd ∉ μ ∧ Rep R μ H x u


def Post (R : Rx) (W : WX) (σ : L2.St) (μ : List Addr) (H : Hp) (r : Res AV) (Q : VK) : Prop := match r with
  | .ok av h' => ∀ μ' H' v, Ev μ H μ' H' → HRel R μ' h' H' → Rep R μ' H' av v → Q v H'
  | .exc c x h' => ∀ μ' H' cls d, Ev μ H μ' H' → HRel R μ' h' H' → ExcRep R μ' H' c x cls d → W cls d σ H'
  | .stuck => False

def rdE (R : Rx) (W : WX) (m : DE) : TE := fun σ H Q => ∃ μ env h, SRel R μ env H σ ∧ HRel R μ h H ∧ Post R W σ μ H (m env h) Q
def PostT (R : Rx) (W : WX) (σ : L2.St) (μ : List Addr) (H : Hp) (r : Res Bool) (Q : Bool → Hp → Prop) : Prop := match r with
  | .ok b h' => ∀ μ' H', Ev μ H μ' H' → HRel R μ' h' H' → Q b H'
  | .exc c x h' => ∀ μ' H' cls d, Ev μ H μ' H' → HRel R μ' h' H' → ExcRep R μ' H' c x cls d → W cls d σ H'
  | .stuck => False
def rdT (R : Rx) (W : WX) (m : DT) : TT := fun σ H Q => ∃ μ env h, SRel R μ env H σ ∧ HRel R μ h H ∧ PostT R W σ μ H (m env h) Q
def PostA (R : Rx) (W : WX) (σ : L2.St) (μ : List Addr) (H : Hp) (r : Res (List AV)) (Q : List V → Hp → Prop) : Prop := match r with
  | .ok avs h' => ∀ μ' H' vs, Ev μ H μ' H' → HRel R μ' h' H' → RepL R μ' H' avs vs → Q vs H'
  | .exc c x h' => ∀ μ' H' cls d, Ev μ H μ' H' → HRel R μ' h' H' → ExcRep R μ' H' c x cls d → W cls d σ H'
  | .stuck => False
def rdA (R : Rx) (W : WX) (m : DA) : TA := fun σ H Q => ∃ μ env h, SRel R μ env H σ ∧ HRel R μ h H ∧ PostA R W σ μ H (m env h) Q
end Tp
end
section
set_option Elab.async false
set_option linter.all false
set_option maxRecDepth 100000
set_option maxHeartbeats 1000000

namespace TpEn
open PySem
open PySem.Sem (wp)
open AutoSeq1 (wpAny_loadPart')
theorem meets_newT (l : Addr) (items : Array Value) (n : Nat) (dct : Option Addr) (sl : Array (Option Value)) :
    Meets (Builtin.«enumerate.__new__» ⟨[.type "enumerate", .ref l], []⟩) (fun _ R s => s.heap.get? l = some { cls := .type "tuple", dict := dct, data := .seq items n, slots := sl } ∧
      R (.ok (.ret (.ref (s.heap.push { cls := .type "tuple_iterator", data := .fields #[.ref l, .int 0 0] }).objs.size)))
        { s with heap := (s.heap.push { cls := .type "tuple_iterator", data := .fields #[.ref l, .int 0 0] }).push { cls := .type "enumerate", data := .fields #[.none, .bool false, .ref s.heap.objs.size, rawInt 0, .none, .none] } }) :=
  .of_wp fun prog w A R s h => by
    obtain ⟨hp, g, d, tk, os⟩ := s; obtain ⟨hl, h⟩ := h
    have hsub := sub_enumerate
    have hL : Heap.IsTuple (Shared.heap ⟨hp, g, d, tk, os⟩) l items := ⟨_, hl, rfl, n, rfl⟩
    wp_walk using wpAny_loadPart' hl
    refine wpAny_stack_any fun st => wpAny_pure ?_
    split
    · rename_i c _ _ _ _ _
      cases (c == Value.type "enumerate")
      · wp_walk using wpAny_loadPart' hl, wpAny_pyIter_tuple hL
        exact ⟨_, rfl, h⟩
      · wp_walk using wpAny_loadPart' hl, wpAny_pyIter_tuple hL
        exact ⟨_, rfl, h⟩
    · wp_walk using wpAny_loadPart' hl, wpAny_pyIter_tuple hL
      exact ⟨_, rfl, h⟩
section
variable {prog : Program} {w : World} {A : Around} {E : Value → Shared → Prop} {s : Shared}
theorem call_enumT {l : Addr} {items : Array Value} {Q : Value → Shared → Prop} (hL : s.heap.IsTuple l items)
    (h : ∀ h', IsEnum h' (s.heap.objs.size + 1) s.heap.objs.size 0 .none → h'.IsTupleIter s.heap.objs.size l 0 → h'.objs.size = s.heap.objs.size + 2 →
      (∀ b o, s.heap.get? b = some o → h'.get? b = some o) → Q (.ref (s.heap.objs.size + 1)) { s with heap := h' }) :
    wpAny (model prog w) A (call (.type "enumerate") [.ref l]) Q E s := by
  obtain ⟨⟨c, dct, dt, sl⟩, hl, hc, n, hd⟩ := hL
  replace hc : c = .type "tuple" := hc
  replace hd : dt = .seq items n := hd
  subst hc hd
  refine callType_new F.called_enumerate (by decide) (F.typeCall_enumerate_1 _) (F.newCall_enumerate_1 _) (fun obj => F.args_object_init_2 obj _) F.entry_enumerate_new
    (meets_newT l items n dct sl) ⟨hl, ?_⟩
  have hz : (s.heap.push { cls := .type "tuple_iterator", data := .fields #[.ref l, .int 0 0] }).objs.size = s.heap.objs.size + 1 := Heap.size_push ..
  show _ ∧ _
  rw [hz]
  have he : IsEnum ((s.heap.push { cls := .type "tuple_iterator", data := .fields #[.ref l, .int 0 0] }).push
      { cls := .type "enumerate", data := .fields #[.none, .bool false, .ref s.heap.objs.size, rawInt 0, .none, .none] }) (s.heap.objs.size + 1) s.heap.objs.size 0 .none := by
    have := Heap.get?_push_size (s.heap.push { cls := .type "tuple_iterator", data := .fields #[.ref l, .int 0 0] })
      (o := { cls := .type "enumerate", data := .fields #[.none, .bool false, .ref s.heap.objs.size, rawInt 0, .none, .none] }) rfl
    rw [hz] at this; exact this
  refine ⟨⟨_, he, rfl⟩, h _ he ⟨_, Heap.get?_push_of_some _ (Heap.get?_push_size _ rfl), rfl, rfl⟩ (by rw [Heap.size_push, hz]) fun b o x => Heap.get?_push_of_some _ (Heap.get?_push_of_some _ x)⟩
theorem pyNext_enumT_end {e it l : Addr} {i : Nat} {items : Array Value} {j : Int} {old : Value} {Q : Option Value → Shared → Prop} (hh : A.handled = none)
    (he : IsEnum s.heap e it j old) (hit : s.heap.IsTupleIter it l i) (hl : s.heap.IsTuple l items) (hx : items[i]? = none)
    (hQ : ∀ h', Heap.ExtBut it s.heap h' → Q none { s with heap := h' }) : wpAny (model prog w) A (pyNext (.ref e)) Q E s := by
  have hT : s.TypeIs (.ref e) "enumerate" := ⟨_, he, rfl⟩
  unfold pyNext
  refine wpAny_bind (wpAny_attempt (wpAny_callSpecial?_slot (name := Str.ofString "__next__") hT F.slot_enumerate_next
    (wpAny_call_entry F.slot_enumerate_next hT F.entry_enumerate_next ?_ (F.args_enumerate_next_1 _))))
  show wpAny _ _ (field (.ref e) 2 >>= _) _ _ _
  refine wpAny_bind (wpAny_field he rfl (x := .ref it) rfl ?_)
  refine wpAny_bind (wpAny_nextOf_tuple_end hh hit hl hx fun h' x he' hx' => ?_)
  obtain ⟨o, ho, hc⟩ := hx'
  refine wpAny_bind (wpAny_isInstance (T := "StopIteration") (b := true) ⟨o, ho, hc⟩ isSubtype_stop ?_)
  exact wpAny_pure (hQ _ he')
end
end TpEn
namespace Tp
open PySem PySem.Spec PyProof.Rows L2

def IteT (K : PySem.W.Frag) (a : Addr) : It :=
  ⟨fun i H => ∃ (xs : List V) (x : V), SqT K H a xs ∧ xs[i]? = some x, fun i H v H' => ∃ T x, v = .ref T ∧ H T = none ∧ H' = upd H T (.tup [.int (i : Nat), x]) ∧ ∀ xs, SqT K H a xs → xs[i]? = some x, fun i H => ∃ xs : List V, SqT K H a xs ∧ xs.length ≤ i⟩
theorem turn_enumT {P : Program} {w : World} {K : PySem.W.Frag} {elts : List Expr} {kk : Nat} {tpos : Pos} (a e it : Addr) (hai : a ≠ it) (hae : a ≠ e) :
    Turn P w K (.Tuple elts kk tpos) (IteT K a) [e, it] e (fun i h => (∃ old, IsEnum h e it ((i : Nat) : Int) old) ∧ h.IsTupleIter it a i ∧ e ≠ it) where
  mem := by simp
  obj := fun i h st b hb => by
    obtain ⟨⟨old, he⟩, ⟨o, ho, hc, hd⟩, _⟩ := st
    have e' : b = e ∨ b = it := by simpa using hb
    rcases e' with z | z
    · rw [z]; exact ⟨_, he, fun v q => nomatch q⟩
    · rw [z]; exact ⟨o, ho, fun v q => by rw [hd] at q; cases q⟩
  keep := fun i h h' st k => let ⟨⟨old, he⟩, hi, hne⟩ := st; ⟨⟨old, k e (by simp) _ he⟩, hi.at fun o q => k it (by simp) o q, hne⟩
  item := by
    intro X hP hw hK hc i pins s σ H E I hf st hg
    subst hP hw hK
    obtain ⟨⟨old, he⟩, hit, hne⟩ := st
    obtain ⟨xs, x, hq, hx⟩ := hg
    obtain ⟨its, rv, p, hz⟩ := I.tuple hq
    obtain ⟨u, hu, ru⟩ := rv.get hx
    have hel : e < s.heap.objs.size := Heap.lt_size he
    have hil : it < s.heap.objs.size := by obtain ⟨_, q, _⟩ := hit; exact Heap.lt_size q
    have D := Draws.tuple (prog := X.prog) (w := X.w) (A := X.A.in1) (I.ok.hd hc) it a hai its.toArray
    have hlt : i < its.toArray.size := (List.getElem?_eq_some_iff.mp hu).1
    refine wpAny_pyNext_enum_itemD D he ⟨hit, p⟩ hlt hne (by simp [hne, Ne.symm hae]) fun y h' tk hy ho hst hT hsz hk => ?_
    have ey : y = u := by
      have h1 : its.toArray[i]? = some u := by simpa using hu
      rw [h1] at hy
      exact (Option.some.inj hy).symm
    subst ey
    refine ⟨_, rfl, wpAny_letOwnedTupleGo_enum (s := { s with heap := h', toks := tk + 1 }) ho fun h'' he' sb => ?_⟩
    have hT2 : h''.get? s.heap.objs.size = some { cls := .type "tuple", data := .seq #[.int i tk, y] } := (sb.2 _ (Nat.ne_of_gt hel)).trans hT
    have new : ObjOk X.prog X.w (upd H s.heap.objs.size (.tup [.int (i : Nat), x])) h'' s.heap.objs.size (.tup [.int (i : Nat), x]) :=
      ⟨by show 2 ≤ sizeLine; decide, [.int i tk, y], .cons ⟨_, rfl⟩ (.cons ru .nil), ⟨_, hT2, rfl, _, rfl⟩⟩
    have I1 : Inv X pins σ (upd H s.heap.objs.size (.tup [.int (i : Nat), x])) { s with heap := h'', toks := tk + 1 } :=
      I.turnedNew (ch := [e, it]) (fun b ob hb q => (sb.2 b (fun z => hb (by simp [z]))).trans (hk b ob (fun z => hb (by simp [z])) (fun z => hb (by simp [z])) q)) hf (Nat.le_refl _) new
    refine ⟨.ref s.heap.objs.size, _, I1, rfl, ⟨_, x, rfl, I.hok.fresh (Nat.le_refl _), rfl, fun ys hy => by rw [I.tuple_inj hy hq]; exact hx⟩, ⟨⟨y, ?_⟩, hst.1.at fun o q => (sb.2 it (Ne.symm hne)).trans q, hne⟩, fun b hb => ?_⟩
    · have e1 : ((i + 1 : Nat) : Int) = (i : Int) + 1 := by omega
      rw [e1]; exact he'
    · have hb' : b < s.heap.objs.size := by
        have e' : b = e ∨ b = it := by simpa using hb
        rcases e' with z | z
        · rw [z]; exact hel
        · rw [z]; exact hil
      rw [upd_ne (Nat.ne_of_lt hb')]
      exact (hf b hb).1
  done := by
    intro X hP hw hK hc i pins s σ H E I hf st hg
    subst hP hw hK
    obtain ⟨⟨old, he⟩, hit, hne⟩ := st
    obtain ⟨xs, hq, hx⟩ := hg
    obtain ⟨its, rv, p, hz⟩ := I.tuple hq
    obtain ⟨f0, f1, f2, f3, f4, f5⟩ := hf it (by simp)
    have hl := rv.length
    exact TpEn.pyNext_enumT_end (I.ok.hd hc) he hit p (by simp; omega) fun h' eb => ⟨rfl, I.turned (t' := s.toks) (fun b o hb q => eb b o hb q) f0 f1 f3 f4 f5⟩
  self := fun A i s Q E st h => let ⟨⟨_, he⟩, _⟩ := st; wpAny_pyIter_enum he h
def iEnumA (K : PySem.W.Frag) (ta : TA) : TI := fun σ H R => ta σ H fun vs H1 => ∃ a, vs = [.ref a] ∧ ((∃ xs, SqL K H1 a xs ∧ R (Ite K a) H1) ∨ ∃ xs, SqT K H1 a xs ∧ R (IteT K a) H1)
theorem pi_enumA {X : Cx} {e : Expr} {ta : TA} {p pos tpos : Pos} {elts : List Expr} {kk : Nat} (hg : Gl X "enumerate") (hm : X.mg "enumerate" = none) (ha : PA X [e] ta) (hs : starEach [e] X.env = [(false, eval e X.env)]) :
    PI X (.Tuple elts kk tpos) (.Call (.Name "enumerate" p) [e] [] pos) (iEnumA X.K ta) := by
  refine ⟨fun pins s σ H R I h => ?_⟩
  refine Call_ (ld_blt I hg hm boot_enumerate (PyProof.Rows.callWith_type1 (thn (ha.run pos pins s σ H _ I h) fun us s1 ⟨vs, H1, I1, r1, q1⟩ => ?_) hs rfl))
  obtain ⟨a, ex, q1⟩ := q1
  subst ex
  cases r1 with
  | cons r rr =>
    cases rr
    cases r
    have fp : ∀ b ∈ [s1.heap.objs.size + 1, s1.heap.objs.size], FpOk X pins H1 b := fun b hb => by
      have e' : b = s1.heap.objs.size + 1 ∨ b = s1.heap.objs.size := by simpa using hb
      have hle : s1.heap.objs.size ≤ b := by
        rcases e' with z | z
        · rw [z]; exact Nat.le_add_right _ _
        · rw [z]; exact Nat.le_refl _
      exact I1.fpOk hle (I1.hok.fresh hle)
    rcases q1 with ⟨xs, hq, q⟩ | ⟨xs, hq, q⟩
    · obtain ⟨its, rv, p', hz⟩ := I1.list hq
      refine call_enumerate_list p'.isList fun h' he hit hsz hk => wpAny_pyIter_enum he ?_
      have I2 : Inv X pins σ H1 { s1 with heap := h' } := I1.kept (t' := s1.toks) hk
      exact ⟨s1.heap.objs.size + 1, [s1.heap.objs.size + 1, s1.heap.objs.size], _, _, H1, rfl, I2, turn_enum a (s1.heap.objs.size + 1) s1.heap.objs.size, ⟨⟨.none, he⟩, hit, Nat.succ_ne_self _⟩, fp, q⟩
    · obtain ⟨its, rv, p', hz⟩ := I1.tuple hq
      have hal : a < s1.heap.objs.size := by obtain ⟨_, z, _⟩ := id p'; exact Heap.lt_size z
      refine TpEn.call_enumT p' fun h' he hit hsz hk => wpAny_pyIter_enum he ?_
      have I2 : Inv X pins σ H1 { s1 with heap := h' } := I1.kept (t' := s1.toks) hk
      exact ⟨s1.heap.objs.size + 1, [s1.heap.objs.size + 1, s1.heap.objs.size], _, _, H1, rfl, I2, turn_enumT a (s1.heap.objs.size + 1) s1.heap.objs.size (Nat.ne_of_lt hal) (Nat.ne_of_lt (Nat.lt_succ_of_lt hal)), ⟨⟨.none, he⟩, hit, Nat.succ_ne_self _⟩, fp, q⟩

def iSeq (K : PySem.W.Frag) (te : TE) : TI := fun σ H R => te σ H fun x H1 => (∃ a, x = .ref a ∧ (∃ xs, SqL K H1 a xs) ∧ R (Itl K a) H1) ∨ (∃ a, x = .ref a ∧ (∃ xs, SqT K H1 a xs) ∧ R (Itt K a) H1) ∨ ∃ z, x = .str z ∧ R (Its z) H1
theorem pi_seq {X : Cx} {tg e : Expr} {te : TE} (he : PE X e te) : PI X tg e (iSeq X.K te) := by
  refine ⟨fun pins s σ H R I h => ?_⟩
  refine thn (he.run pins s σ H _ I h) fun v s1 ⟨x, H1, I1, r1, q1⟩ => ?_
  have fp : ∀ b ∈ [s1.heap.objs.size], FpOk X pins H1 b := fun b hb => by
    have e : b = s1.heap.objs.size := by simpa using hb
    subst e
    exact I1.fpOk (Nat.le_refl _) (I1.hok.fresh (Nat.le_refl _))
  rcases q1 with ⟨a, e, ⟨xs, hq⟩, q⟩ | ⟨a, e, ⟨xs, hq⟩, q⟩ | ⟨z, e, q⟩
  · subst e
    cases r1
    obtain ⟨its, rv, p, hz⟩ := I1.list hq
    refine wpAny_pyIter_list p.isList ?_
    exact ⟨s1.heap.objs.size, [s1.heap.objs.size], _, _, H1, rfl, I1.kept (t' := s1.toks) fun b o e => Heap.get?_push_of_some _ e, turn_list a _, ⟨_, Heap.get?_push_size _ rfl, rfl, rfl⟩, fp, q⟩
  · subst e
    cases r1
    obtain ⟨its, rv, p, hz⟩ := I1.tuple hq
    refine wpAny_pyIter_tuple (show s1.heap.IsTuple a its.toArray from p) ?_
    exact ⟨s1.heap.objs.size, [s1.heap.objs.size], _, _, H1, rfl, I1.kept (t' := s1.toks) fun b o e => Heap.get?_push_of_some _ e, turn_tuple a _, ⟨_, Heap.get?_push_size _ rfl, rfl, rfl⟩, fp, q⟩
  · subst e
    obtain ⟨t, rfl⟩ := r1
    cases ha : z.cps.all (· < 128)
    · exact wpAny_pyIter_wide ha (pi_one (tk := s1.toks) I1 _ (turn_str _ z t "str_iterator" (.inr rfl)) ⟨_, Heap.get?_push_size _ rfl, rfl, rfl⟩ q)
    · exact wpAny_pyIter_ascii ha (pi_one (tk := s1.toks) I1 _ (turn_str _ z t "str_ascii_iterator" (.inl rfl)) ⟨_, Heap.get?_push_size _ rfl, rfl, rfl⟩ q)
end Tp
end
section
set_option Elab.async false
set_option linter.all false
set_option maxRecDepth 100000
set_option maxHeartbeats 1000000

namespace Tp
open PySem PySem.Spec PyProof.Rows L2

section
variable {R : Rx} {W : WX} {σ : L2.St} {μ μ1 : List Addr} {H H1 : Hp}
theorem Post.ev {r : Res AV} {Q : VK} (p : Post R W σ μ H r Q) (e : Ev μ H μ1 H1) : Post R W σ μ1 H1 r Q := by
  cases r with
  | ok a h => exact fun μ' H' v e' => p μ' H' v (e.trans e')
  | exc c x h => exact fun μ' H' cls d e' => p μ' H' cls d (e.trans e')
  | stuck => exact p
theorem PostT.ev {r : Res Bool} {Q : Bool → Hp → Prop} (p : PostT R W σ μ H r Q) (e : Ev μ H μ1 H1) : PostT R W σ μ1 H1 r Q := by
  cases r with
  | ok a h => exact fun μ' H' e' => p μ' H' (e.trans e')
  | exc c x h => exact fun μ' H' cls d e' => p μ' H' cls d (e.trans e')
  | stuck => exact p
theorem PostA.ev {r : Res (List AV)} {Q : List V → Hp → Prop} (p : PostA R W σ μ H r Q) (e : Ev μ H μ1 H1) : PostA R W σ μ1 H1 r Q := by
  cases r with
  | ok a h => exact fun μ' H' v e' => p μ' H' v (e.trans e')
  | exc c x h => exact fun μ' H' cls d e' => p μ' H' cls d (e.trans e')
  | stuck => exact p

abbrev K1 (α : Type) := α → AHp → Prop

def PostX (R : Rx) (W : WX) (σ : L2.St) (μ : List Addr) (H : Hp) (c : Nat) (x : AV) (h' : AHp) : Prop :=
  ∀ μ' H' cls d, Ev μ H μ' H' → HRel R μ' h' H' → ExcRep R μ' H' c x cls d → W cls d σ H'

theorem rdE_first {m : DE} {μ : List Addr} {env : AEnv} {h : AHp} {H : Hp} (S : SRel R μ env H σ) (hr : HRel R μ h H) {Q : VK}
    (hk : ∀ av h1, m env h = .ok av h1 → ∀ μ' H' v, Ev μ H μ' H' → SRel R μ' env H' σ → HRel R μ' h1 H' → Rep R μ' H' av v → Q v H') (hx : ∀ c x h1, m env h = .exc c x h1 → PostX R W σ μ H c x h1) (hs : m env h ≠ .stuck) :
    rdE R W m σ H Q := by
  refine ⟨μ, env, h, S, hr, ?_⟩
  cases e : m env h with
  | ok a h1 => exact fun μ' H' v e1 r1 r2 => hk a h1 e μ' H' v e1 (S.ev hr.cells e1) r1 r2
  | exc c x h1 => exact hx c x h1 e
  | stuck => exact (hs e).elim
theorem rdA_first {m : DA} {μ : List Addr} {env : AEnv} {h : AHp} {H : Hp} (S : SRel R μ env H σ) (hr : HRel R μ h H) {Q : List V → Hp → Prop}
    (hk : ∀ av h1, m env h = .ok av h1 → ∀ μ' H' v, Ev μ H μ' H' → SRel R μ' env H' σ → HRel R μ' h1 H' → RepL R μ' H' av v → Q v H') (hx : ∀ c x h1, m env h = .exc c x h1 → PostX R W σ μ H c x h1) (hs : m env h ≠ .stuck) :
    rdA R W m σ H Q := by
  refine ⟨μ, env, h, S, hr, ?_⟩
  cases e : m env h with
  | ok a h1 => exact fun μ' H' v e1 r1 r2 => hk a h1 e μ' H' v e1 (S.ev hr.cells e1) r1 r2
  | exc c x h1 => exact hx c x h1 e
  | stuck => exact (hs e).elim
theorem rdT_first {m : DT} {μ : List Addr} {env : AEnv} {h : AHp} {H : Hp} (S : SRel R μ env H σ) (hr : HRel R μ h H) {Q : Bool → Hp → Prop}
    (hk : ∀ b h1, m env h = .ok b h1 → ∀ μ' H', Ev μ H μ' H' → SRel R μ' env H' σ → HRel R μ' h1 H' → Q b H') (hx : ∀ c x h1, m env h = .exc c x h1 → PostX R W σ μ H c x h1) (hs : m env h ≠ .stuck) :
    rdT R W m σ H Q := by
  refine ⟨μ, env, h, S, hr, ?_⟩
  cases e : m env h with
  | ok a h1 => exact fun μ' H' e1 r1 => hk a h1 e μ' H' e1 (S.ev hr.cells e1) r1
  | exc c x h1 => exact hx c x h1 e
  | stuck => exact (hs e).elim
theorem PostX.ev {c : Nat} {x : AV} {h' : AHp} (p : PostX R W σ μ H c x h') (e : Ev μ H μ1 H1) : PostX R W σ μ1 H1 c x h' := fun μ' H' cls d e' => p μ' H' cls d (e.trans e')
end


theorem bind_ok {α β : Type} {m : M α} {k : α → M β} {h h1 : AHp} {a : α} (e : m h = .ok a h1) : bind m k h = k a h1 := by unfold bind; rw [e]
theorem bind_exc {α β : Type} {m : M α} {k : α → M β} {h h1 : AHp} {c : Nat} {x : AV} (e : m h = .exc c x h1) : bind m k h = .exc c x h1 := by unfold bind; rw [e]
theorem bind_stuck {α β : Type} {m : M α} {k : α → M β} {h : AHp} (e : m h = .stuck) : bind m k h = .stuck := by unfold bind; rw [e]
theorem ret_eq {α : Type} (a : α) (h : AHp) : ret a h = .ok a h := rfl
theorem fail_eq {α : Type} (h : AHp) : (fail : M α) h = .stuck := rfl

section
variable {R : Rx} {W : WX} {σ : L2.St} {Q : VK}

theorem rdE_bind {m : DE} {k : AV → M AV} {μ : List Addr} {env : AEnv} {h : AHp} {H : Hp} {Q' : VK} (S : SRel R μ env H σ) (hr : HRel R μ h H) (p : Post R W σ μ H (bind (m env) k h) Q)
    (hk : ∀ av h1 μ' H' v, Ev μ H μ' H' → SRel R μ' env H' σ → HRel R μ' h1 H' → Rep R μ' H' av v → Post R W σ μ' H' (k av h1) Q → Q' v H') : rdE R W m σ H Q' := by
  refine rdE_first S hr (fun av h1 e μ' H' v ev s' r' rv => ?_) (fun c x h1 e => ?_) fun e => ?_
  · rw [bind_ok e] at p
    exact hk av h1 μ' H' v ev s' r' rv (p.ev ev)
  · rw [bind_exc e] at p
    exact p
  · rw [bind_stuck e] at p
    exact p
theorem rdE_bindA {m : DE} {k : AV → M (List AV)} {μ : List Addr} {env : AEnv} {h : AHp} {H : Hp} {Q : List V → Hp → Prop} {Q' : VK} (S : SRel R μ env H σ) (hr : HRel R μ h H) (p : PostA R W σ μ H (bind (m env) k h) Q)
    (hk : ∀ av h1 μ' H' v, Ev μ H μ' H' → SRel R μ' env H' σ → HRel R μ' h1 H' → Rep R μ' H' av v → PostA R W σ μ' H' (k av h1) Q → Q' v H') : rdE R W m σ H Q' := by
  refine rdE_first S hr (fun av h1 e μ' H' v ev s' r' rv => ?_) (fun c x h1 e => ?_) fun e => ?_
  · rw [bind_ok e] at p
    exact hk av h1 μ' H' v ev s' r' rv (p.ev ev)
  · rw [bind_exc e] at p
    exact p
  · rw [bind_stuck e] at p
    exact p
theorem rdE_bindT {m : DE} {k : AV → M Bool} {μ : List Addr} {env : AEnv} {h : AHp} {H : Hp} {Q : Bool → Hp → Prop} {Q' : VK} (S : SRel R μ env H σ) (hr : HRel R μ h H) (p : PostT R W σ μ H (bind (m env) k h) Q)
    (hk : ∀ av h1 μ' H' v, Ev μ H μ' H' → SRel R μ' env H' σ → HRel R μ' h1 H' → Rep R μ' H' av v → PostT R W σ μ' H' (k av h1) Q → Q' v H') : rdE R W m σ H Q' := by
  refine rdE_first S hr (fun av h1 e μ' H' v ev s' r' rv => ?_) (fun c x h1 e => ?_) fun e => ?_
  · rw [bind_ok e] at p
    exact hk av h1 μ' H' v ev s' r' rv (p.ev ev)
  · rw [bind_exc e] at p
    exact p
  · rw [bind_stuck e] at p
    exact p
theorem rdT_bind {m : DT} {k : Bool → M AV} {μ : List Addr} {env : AEnv} {h : AHp} {H : Hp} {Q' : Bool → Hp → Prop} (S : SRel R μ env H σ) (hr : HRel R μ h H) (p : Post R W σ μ H (bind (m env) k h) Q)
    (hk : ∀ b h1 μ' H', Ev μ H μ' H' → SRel R μ' env H' σ → HRel R μ' h1 H' → Post R W σ μ' H' (k b h1) Q → Q' b H') : rdT R W m σ H Q' := by
  refine rdT_first S hr (fun av h1 e μ' H' ev s' r' => ?_) (fun c x h1 e => ?_) fun e => ?_
  · rw [bind_ok e] at p
    exact hk av h1 μ' H' ev s' r' (p.ev ev)
  · rw [bind_exc e] at p
    exact p
  · rw [bind_stuck e] at p
    exact p
theorem rdT_bindT {m : DT} {k : Bool → M Bool} {μ : List Addr} {env : AEnv} {h : AHp} {H : Hp} {Q Q' : Bool → Hp → Prop} (S : SRel R μ env H σ) (hr : HRel R μ h H) (p : PostT R W σ μ H (bind (m env) k h) Q)
    (hk : ∀ b h1 μ' H', Ev μ H μ' H' → SRel R μ' env H' σ → HRel R μ' h1 H' → PostT R W σ μ' H' (k b h1) Q → Q' b H') : rdT R W m σ H Q' := by
  refine rdT_first S hr (fun av h1 e μ' H' ev s' r' => ?_) (fun c x h1 e => ?_) fun e => ?_
  · rw [bind_ok e] at p
    exact hk av h1 μ' H' ev s' r' (p.ev ev)
  · rw [bind_exc e] at p
    exact p
  · rw [bind_stuck e] at p
    exact p
theorem rdA_bind {m : DA} {k : List AV → M AV} {μ : List Addr} {env : AEnv} {h : AHp} {H : Hp} {Q' : List V → Hp → Prop} (S : SRel R μ env H σ) (hr : HRel R μ h H) (p : Post R W σ μ H (bind (m env) k h) Q)
    (hk : ∀ avs h1 μ' H' vs, Ev μ H μ' H' → SRel R μ' env H' σ → HRel R μ' h1 H' → RepL R μ' H' avs vs → Post R W σ μ' H' (k avs h1) Q → Q' vs H') : rdA R W m σ H Q' := by
  refine rdA_first S hr (fun av h1 e μ' H' v ev s' r' rv => ?_) (fun c x h1 e => ?_) fun e => ?_
  · rw [bind_ok e] at p
    exact hk av h1 μ' H' v ev s' r' rv (p.ev ev)
  · rw [bind_exc e] at p
    exact p
  · rw [bind_stuck e] at p
    exact p
theorem rdA_bindA {m : DA} {k : List AV → M (List AV)} {μ : List Addr} {env : AEnv} {h : AHp} {H : Hp} {Q Q' : List V → Hp → Prop} (S : SRel R μ env H σ) (hr : HRel R μ h H) (p : PostA R W σ μ H (bind (m env) k h) Q)
    (hk : ∀ avs h1 μ' H' vs, Ev μ H μ' H' → SRel R μ' env H' σ → HRel R μ' h1 H' → RepL R μ' H' avs vs → PostA R W σ μ' H' (k avs h1) Q → Q' vs H') : rdA R W m σ H Q' := by
  refine rdA_first S hr (fun av h1 e μ' H' v ev s' r' rv => ?_) (fun c x h1 e => ?_) fun e => ?_
  · rw [bind_ok e] at p
    exact hk av h1 μ' H' v ev s' r' rv (p.ev ev)
  · rw [bind_exc e] at p
    exact p
  · rw [bind_stuck e] at p
    exact p
end


section
variable {R : Rx} {W : WX} {σ : L2.St} {μ : List Addr} {H : Hp} {Q : VK} {h : AHp}

theorem Post.ok {av : AV} {v : V} (p : Post R W σ μ H (ret av h) Q) (hr : HRel R μ h H) (r : Rep R μ H av v) : Q v H := p μ H v (Ev.refl _ _) hr r

theorem HRel.new {p : Addr} {o : HO} (hr : HRel R μ h H) (hp : H p = none) : HRel R μ h (upd H p o) := by
  have e : Ev μ H μ (upd H p o) := Ev.new hp
  have c := hr.cells
  refine ⟨hr.len, hr.nd, fun i ob a h1 h2 => ?_, hr.tabs.ext fun b u z => by rw [upd_ne (ne_of_none z hp)]; exact z, fun b hb => let ⟨n, xs, z⟩ := hr.hid b hb; ⟨n, xs, by rw [upd_ne (ne_of_none z hp)]; exact z⟩⟩
  have q := hr.obj i ob a h1 h2
  cases ob with
  | lst xs =>
    obtain ⟨vs, z, r, pu⟩ := q
    exact ⟨vs, by rw [upd_ne (ne_of_none z hp)]; exact z, r.ev c e, pu⟩
  | ins k fs =>
    obtain ⟨dx, fs', z, n, r, pu⟩ := q
    exact ⟨dx, fs', by rw [upd_ne (ne_of_none z hp)]; exact z, n, r.ev c e, pu⟩
  | dct kvs => exact q.elim
theorem HRel.notin (hr : HRel R μ h H) {p : Addr} (hp : H p = none) : p ∉ μ := fun z => by
  rcases hr.cells p z with ⟨_, e⟩ | ⟨_, _, _, e⟩ | ⟨_, e⟩ | ⟨_, e⟩ <;> rw [hp] at e <;> cases e
theorem HRel.off (hr : HRel R μ h H) {p : Addr} (hp : H p = none) : Off R μ p := ⟨hr.notin hp, fun z => by
  obtain ⟨_, xs, e⟩ := hr.hid p z
  rw [hp] at e
  cases e⟩

theorem Post.newTup {xs : List AV} {vs : List V} (p : Post R W σ μ H (ret (.tup xs) h) Q) (hr : HRel R μ h H) (r : RepL R μ H xs vs) : ∀ q, H q = none → Q (.ref q) (upd H q (.tup vs)) := fun q hq =>
  p μ _ _ (Ev.new hq) (hr.new hq) ⟨q, vs, rfl, .of upd_same, r.ev hr.cells (Ev.new hq)⟩

theorem Post.newLst {xs : List AV} {vs : List V} (p : Post R W σ μ H (ret (.lst xs) h) Q) (hr : HRel R μ h H) (r : RepL R μ H xs vs) : ∀ q, H q = none → Q (.ref q) (upd H q (.lst vs)) := fun q hq =>
  p μ _ _ (Ev.new hq) (hr.new hq) ⟨q, vs, rfl, .of upd_same, hr.off hq, r.ev hr.cells (Ev.new hq)⟩
theorem RepL.length : ∀ {xs : List AV} {vs : List V}, RepL R μ H xs vs → vs.length = xs.length
  | [], _, h => by rw [show _ = [] from h]; rfl
  | x :: xs, _, h => by
    obtain ⟨v, r, rfl, _, h2⟩ := h
    rw [List.length_cons, List.length_cons, RepL.length h2]
theorem RepL.append : ∀ {xs ys : List AV} {vs ws : List V}, RepL R μ H xs vs → RepL R μ H ys ws → RepL R μ H (xs ++ ys) (vs ++ ws)
  | [], _, _, _, h, k => by rw [show _ = [] from h]; exact k
  | x :: xs, _, _, _, h, k => by
    obtain ⟨v, r, rfl, h1, h2⟩ := h
    exact ⟨v, _, rfl, h1, RepL.append h2 k⟩
theorem RepL.get : ∀ {xs : List AV} {vs : List V} {i : Nat} {x : AV}, RepL R μ H xs vs → xs[i]? = some x → ∃ v, vs[i]? = some v ∧ Rep R μ H x v
  | [], _, _, _, _, e => by simp at e
  | x :: xs, _, 0, y, h, e => by
    obtain ⟨v, r, rfl, h1, h2⟩ := h
    simp at e; subst e
    exact ⟨v, rfl, h1⟩
  | x :: xs, _, i + 1, y, h, e => by
    obtain ⟨v, r, rfl, h1, h2⟩ := h
    obtain ⟨w, e1, e2⟩ := RepL.get (i := i) h2 (by simpa using e)
    exact ⟨w, by simpa using e1, e2⟩
theorem RepL.drop : ∀ {xs : List AV} {vs : List V} (n : Nat), RepL R μ H xs vs → RepL R μ H (xs.drop n) (vs.drop n)
  | _, _, 0, h => h
  | [], _, n + 1, h => by rw [show _ = [] from h]; exact (rfl : ([] : List V) = [])
  | x :: xs, _, n + 1, h => by
    obtain ⟨v, r, rfl, h1, h2⟩ := h
    exact RepL.drop n h2
theorem RepL.take : ∀ {xs : List AV} {vs : List V} (n : Nat), RepL R μ H xs vs → RepL R μ H (xs.take n) (vs.take n)
  | _, _, 0, h => (rfl : ([] : List V) = [])
  | [], _, n + 1, h => by rw [show _ = [] from h]; exact (rfl : ([] : List V) = [])
  | x :: xs, _, n + 1, h => by
    obtain ⟨v, r, rfl, h1, h2⟩ := h
    exact ⟨v, _, rfl, h1, RepL.take n h2⟩
theorem RepL.rep {xs : List AV} {vs : List V} (h : RepL R μ H xs vs) : ∀ k : Nat, RepL R μ H (List.replicate k xs).flatten (List.replicate k vs).flatten
  | 0 => (rfl : ([] : List V) = [])
  | k + 1 => by
    rw [List.replicate_succ, List.replicate_succ, List.flatten_cons, List.flatten_cons]
    exact h.append (RepL.rep h k)
theorem RepL.nil_iff {xs : List AV} {vs : List V} (h : RepL R μ H xs vs) : vs = [] ↔ xs = [] := by
  rw [← List.length_eq_zero_iff, ← List.length_eq_zero_iff, h.length]
theorem RepL.set : ∀ {xs : List AV} {vs : List V} {x : AV} {v : V} (n : Nat), RepL R μ H xs vs → Rep R μ H x v → RepL R μ H (xs.set n x) (vs.set n v)
  | [], _, _, _, n, h, _ => by rw [show _ = [] from h]; simp; exact (rfl : ([] : List V) = [])
  | x :: xs, _, _, _, 0, h, r => by
    obtain ⟨v, q, rfl, h1, h2⟩ := h
    exact ⟨_, _, rfl, r, h2⟩
  | x :: xs, _, _, _, n + 1, h, r => by
    obtain ⟨v, q, rfl, h1, h2⟩ := h
    exact ⟨_, _, rfl, h1, RepL.set n h2 r⟩
end
theorem SL_eq : SL = sizeLine := by rw [sizeLine_eq]


section
variable {X : Cx} {pins : List (Addr × Obj)} {σ : L2.St} {H : Hp} {s : Shared}
theorem rd_lst (I : Inv X pins σ H s) {l : Addr} {xs : List V} (h : Rd H l (.lst xs)) : xs.length ≤ sizeLine ∧ ∃ (its : List Value) (n : Nat), Vals xs its ∧ xs.length = its.length ∧ s.heap.get? l = some { cls := .type "list", data := .seq its.toArray n } := by
  obtain ⟨z, its, n, r, e⟩ := Rd.ok h I.hok
  exact ⟨z, its, n, r, r.length, e⟩

def rCatR : R2 := fun x y H Q => ∃ l b xs zs, x = .ref l ∧ y = .ref b ∧ Rd H l (.lst xs) ∧ Rd H b (.lst zs) ∧ xs.length + zs.length ≤ sizeLine ∧ ∀ p, H p = none → Q (.ref p) (upd H p (.lst (xs ++ zs)))
theorem op_catR : OpR X (binaryOp .Add) rCatR := by
  intro pins s σ H x y v u Q I rx ry h
  obtain ⟨l, b, xs, zs, rfl, rfl, hH, hB, hz, q⟩ := h
  cases rx
  cases ry
  obtain ⟨z, its, n, r, hl, e⟩ := rd_lst I hH
  obtain ⟨z2, its2, n2, r2, hl2, e2⟩ := rd_lst I hB
  refine PySem.P.add_list e e2 ?_ (by rw [List.size_toArray, List.size_toArray]; omega)
  have ea : its.toArray ++ its2.toArray = (its ++ its2).toArray := by simp
  rw [ea]
  exact ⟨.ref _, _, I.lnew (t' := s.toks) (r.append r2) (by rw [List.length_append]; omega), rfl, q _ I.fresh⟩

def rRepW (K : PySem.W.Frag) : R2 := fun x y H Q => ∃ l k xs, x = .ref l ∧ y = .int k ∧ SqT K H l xs ∧ xs ≠ [] ∧ 2 ≤ k ∧ k ≤ 100000 ∧ xs.length * k.toNat ≤ sizeLine ∧ ∀ p, H p = none → Q (.ref p) (upd H p (.tup (List.replicate k.toNat xs).flatten))
theorem op_repW : OpR X (binaryOp .Mult) (rRepW X.K) := by
  intro pins s σ H x y v u Q I rx ry h
  obtain ⟨l, k, xs, rfl, rfl, hT, hne, h1, h2, hz, q⟩ := h
  cases rx
  obtain ⟨t, rfl⟩ := ry
  obtain ⟨its, r, ⟨⟨cls, dd, data, sl⟩, ho, hc, n, hd⟩, hs⟩ := I.tuple hT
  simp only at hc hd
  subst hc hd
  have hle : its.length = xs.length := r.length.symm
  have hn : its ≠ [] := fun e => hne (by
    rw [e] at hle
    exact List.eq_nil_of_length_eq_zero hle.symm)
  have hi : its.toArray.isEmpty = false := by
    cases its with
    | nil => exact absurd rfl hn
    | cons a b => rfl
  have hsz0 : its.toArray.size = xs.length := by rw [List.size_toArray, hle]
  have hz' : xs.length * k.toNat ≤ 16777216 := by rw [← sizeLine_eq]; exact hz
  have hm : ((its.toArray.size : Nat) : Int) * k ≤ 16777216 := by
    rw [hsz0]
    have e : k = (k.toNat : Int) := by omega
    rw [e]
    have q := Int.ofNat_le.mpr hz'
    rw [Int.natCast_mul] at q
    exact q
  have flen0 : (List.replicate k.toNat its).flatten.length = xs.length * k.toNat := by
    rw [PyProof.Rows.lm_len_rep_flat, hle, Nat.mul_comm]
  have flen : (List.replicate k.toNat its).flatten.length ≤ sizeLine := by rw [flen0]; exact hz
  have c0 : (decide (k < -(2 ^ 63)) || decide (k ≥ 2 ^ 63)) = false := by
    rw [decide_eq_false (by omega), decide_eq_false (by omega)] <;> rfl
  have c1 : (its.toArray.isEmpty || k == 1) = false := by
    rw [hi, Bool.false_or]
    exact beq_eq_false_iff_ne.mpr (by omega)
  have c2 : (decide (k ≤ 0) || its.toArray.isEmpty) = false := by
    rw [hi, Bool.or_false]
    exact decide_eq_false (by omega)
  have c4 : Builtin.Tuple.tupleTooMany (((its.toArray.size : Nat) : Int) * k) = false := by
    unfold Builtin.Tuple.tupleTooMany
    rw [sizeLine_eq]
    exact decide_eq_false (by omega)
  refine wpAny_binaryOp_repeat_ref (T := "tuple") (U := "int") (by decide) ⟨_, ho, rfl⟩ (fun s' => typeIs_int s' k t) noFill_tuple_mul F.fills_int_mul F.slot_int_rmul repeat_tuple F.slot_int_index.lookup
    (call_meets F.slot_int_rmul (typeIs_int s k t) F.entry_int_rmul (F.args_int_rmul_2 _ _) (int_rmul_tuple k t l its.toArray n dd sl)
      ⟨ho, rfl, ⟨_, ho, rfl⟩, call_meets F.slot_tuple_mul ⟨_, ho, rfl⟩ F.entry_tuple_mul (F.args_tuple_mul_2 _ _) (tuple_mulW l its.toArray n dd sl k t c0 c1 c2 (by omega) c4 (by rw [size_rep, List.size_toArray]; exact flen)) ⟨ho, ?_⟩⟩)
  rw [size_rep]
  refine ⟨.ref s.heap.objs.size, _, I.laid (t' := s.toks) (o := .tup (List.replicate k.toNat xs).flatten) (fun b ob q => Heap.get?_push_of_some _ q) (Nat.le_refl _) ?_, rfl, q _ (I.hok.fresh (Nat.le_refl _))⟩
  exact ⟨by rw [PyProof.Rows.lm_len_rep_flat, Nat.mul_comm]; exact hz, _, r.rep k.toNat, IsTup.new _ _⟩
end
end Tp
end
section
set_option Elab.async false
set_option linter.all false
set_option maxRecDepth 100000
set_option maxHeartbeats 1000000

namespace Tp
open PySem PySem.Spec PyProof.Rows L2


mutual
def toPD : AV → PyData
  | .non => .none
  | .bl b => .bool b
  | .int i => .int i
  | .str s => .str ⟨s.toArray⟩
  | .tup xs => .tuple (toPDs xs)
  | .lst xs => .list (toPDs xs)
  | _ => .none
def toPDs : List AV → List PyData
  | [] => []
  | x :: r => toPD x :: toPDs r
end
section
variable {R : Rx} {μ : List Addr} {H : Hp}
mutual
theorem dat_dp : ∀ (n : Nat) (a : AV) (v : V), a.dat n = true → Rep R μ H a v → Dp R.K H v (toPD a)
  | _, .non, _, _, h => by rw [show _ = V.non from h]; exact .non
  | _, .bl b, _, _, h => by rw [show _ = V.bl b from h]; exact .bl b
  | _, .int i, _, _, h => by rw [show _ = V.int i from h]; exact .int i
  | _, .str s, _, _, h => by rw [show _ = V.str _ from h]; exact .str _
  | n + 1, .tup xs, v, d, h => by
    obtain ⟨a, vs, rfl, h1, h2⟩ := h
    exact .tup h1 (dat_dps n xs vs (by simpa [AV.dat] using d) h2)
  | n + 1, .lst xs, v, d, h => by
    obtain ⟨a, vs, rfl, h1, _, h2⟩ := h
    exact .lst (.inl h1) (dat_dps n xs vs (by simpa [AV.dat] using d) h2)
  | 0, .tup _, _, d, _ => by simp [AV.dat] at d
  | 0, .lst _, _, d, _ => by simp [AV.dat] at d
  | 0, .ref _, _, d, _ => by simp [AV.dat] at d
  | 0, .fn _, _, d, _ => by simp [AV.dat] at d
  | 0, .clo _ _, _, d, _ => by simp [AV.dat] at d
  | 0, .cls _, _, d, _ => by simp [AV.dat] at d
  | 0, .xcls _, _, d, _ => by simp [AV.dat] at d
  | 0, .ty _, _, d, _ => by simp [AV.dat] at d
  | 0, .exc _ _, _, d, _ => by simp [AV.dat] at d
  | 0, .obj _ _, _, d, _ => by simp [AV.dat] at d
  | 0, .dct _, _, d, _ => by simp [AV.dat] at d
  | n + 1, .ref _, _, d, _ => by simp [AV.dat] at d
  | n + 1, .fn _, _, d, _ => by simp [AV.dat] at d
  | n + 1, .clo _ _, _, d, _ => by simp [AV.dat] at d
  | n + 1, .cls _, _, d, _ => by simp [AV.dat] at d
  | n + 1, .xcls _, _, d, _ => by simp [AV.dat] at d
  | n + 1, .ty _, _, d, _ => by simp [AV.dat] at d
  | n + 1, .exc _ _, _, d, _ => by simp [AV.dat] at d
  | n + 1, .obj _ _, _, d, _ => by simp [AV.dat] at d
  | n + 1, .dct _, _, d, _ => by simp [AV.dat] at d
theorem dat_dps : ∀ (n : Nat) (xs : List AV) (vs : List V), AV.datAll n xs = true → RepL R μ H xs vs → DpAll R.K H vs (toPDs xs)
  | _, [], _, _, h => by rw [show _ = [] from h]; exact .nil
  | n, x :: xs, _, d, h => by
    obtain ⟨v, r, rfl, h1, h2⟩ := h
    have d' : x.dat n = true ∧ AV.datAll n xs = true := by simpa [AV.datAll] using d
    exact .cons (dat_dp n x v d'.1 h1) (dat_dps n xs r d'.2 h2)
end
end
theorem strOk_of {s : List Nat} (h : (s.all fun c => decide (c < 55296)) = true) : PyData.strOk ⟨s.toArray⟩ = true := by
  unfold PyData.strOk
  simp only [List.all_eq_true, decide_eq_true_eq] at h
  simp [List.all_eq_true]
  intro c hc
  have := h c hc
  omega
mutual
theorem dat_lay : ∀ (n : Nat) (a : AV), a.dat n = true → (toPD a).canLay0 = true ∧ (toPD a).depth ≤ n
  | _, .non, _ => by simp [toPD, PyData.canLay0, PyData.depth]
  | _, .bl b, _ => by simp [toPD, PyData.canLay0, PyData.depth]
  | _, .int i, _ => by simp [toPD, PyData.canLay0, PyData.depth]
  | n, .str s, h => by
    have h' : (s.all fun c => decide (c < 55296)) = true := by cases n <;> simpa [AV.dat] using h
    exact ⟨by simp only [toPD, PyData.canLay0]; exact strOk_of h', by simp [toPD, PyData.depth]⟩
  | n + 1, .tup xs, d => by
    obtain ⟨h1, h2⟩ := dat_lays n xs (by simpa [AV.dat] using d)
    exact ⟨by simpa [toPD, PyData.canLay0] using h1, by simp [toPD, PyData.depth]; omega⟩
  | n + 1, .lst xs, d => by
    obtain ⟨h1, h2⟩ := dat_lays n xs (by simpa [AV.dat] using d)
    exact ⟨by simpa [toPD, PyData.canLay0] using h1, by simp [toPD, PyData.depth]; omega⟩
  | 0, .tup _, d => by simp [AV.dat] at d
  | 0, .lst _, d => by simp [AV.dat] at d
  | _, .ref _, d => by simp [AV.dat] at d
  | _, .fn _, d => by simp [AV.dat] at d
  | _, .clo _ _, d => by simp [AV.dat] at d
  | _, .cls _, d => by simp [AV.dat] at d
  | _, .xcls _, d => by simp [AV.dat] at d
  | _, .ty _, d => by simp [AV.dat] at d
  | _, .exc _ _, d => by simp [AV.dat] at d
  | _, .obj _ _, d => by simp [AV.dat] at d
  | _, .dct _, d => by simp [AV.dat] at d
theorem dat_lays : ∀ (n : Nat) (xs : List AV), AV.datAll n xs = true → PyData.canLayAll0 (toPDs xs) = true ∧ PyData.depthAll (toPDs xs) ≤ n
  | _, [], _ => by simp [toPDs, PyData.canLayAll0, PyData.depthAll]
  | n, x :: xs, d => by
    have d' : x.dat n = true ∧ AV.datAll n xs = true := by simpa [AV.datAll] using d
    obtain ⟨h1, h2⟩ := dat_lay n x d'.1
    obtain ⟨h3, h4⟩ := dat_lays n xs d'.2
    exact ⟨by simp [toPDs, PyData.canLayAll0, h1, h3], by simp [toPDs, PyData.depthAll]; omega⟩
end
theorem dat_shaped {a : AV} (h : a.dat DD = true) : SeqAt.shaped (toPD a) = true := by
  obtain ⟨h1, h2⟩ := dat_lay _ _ h
  unfold SeqAt.shaped
  rw [h1, decide_eq_true (by unfold DD at h2; omega)]
  rfl
theorem dats_shaped {xs : List AV} (h : AV.datAll DD xs = true) : SeqAt.shaped (.list (toPDs xs)) = true := by
  obtain ⟨h1, h2⟩ := dat_lays _ _ h
  unfold SeqAt.shaped
  have e1 : (PyData.list (toPDs xs)).canLay0 = true := by simpa [PyData.canLay0] using h1
  have e2 : (PyData.list (toPDs xs)).depth ≤ 64 := by
    simp [PyData.depth]
    unfold DD at h2
    omega
  rw [e1, decide_eq_true e2]
  rfl
theorem eqvs_of {n : Nat} (ih : ∀ (a b : AV) (m : Nat), a.dat n = true → b.dat m = true → PyData.eqv (toPD a) (toPD b) = a.eqv b) :
    ∀ (xs ys : List AV) (m : Nat), AV.datAll n xs = true → AV.datAll m ys = true → PyData.eqvAll (toPDs xs) (toPDs ys) = AV.eqvAll xs ys
  | [], [], _, _, _ => by simp [toPDs, PyData.eqvAll, AV.eqvAll]
  | [], _ :: _, _, _, _ => by simp [toPDs, PyData.eqvAll, AV.eqvAll]
  | _ :: _, [], _, _, _ => by simp [toPDs, PyData.eqvAll, AV.eqvAll]
  | x :: xs, y :: ys, m, hx, hy => by
    have hx' : x.dat n = true ∧ AV.datAll n xs = true := by simpa [AV.datAll] using hx
    have hy' : y.dat m = true ∧ AV.datAll m ys = true := by simpa [AV.datAll] using hy
    simp only [toPDs, PyData.eqvAll, AV.eqvAll]
    rw [ih x y m hx'.1 hy'.1, eqvs_of ih xs ys m hx'.2 hy'.2]
theorem nd_ref (n k) : AV.dat n (.ref k) = false := by cases n <;> simp [AV.dat]
theorem nd_fn (n k) : AV.dat n (.fn k) = false := by cases n <;> simp [AV.dat]
theorem nd_clo (n k c) : AV.dat n (.clo k c) = false := by cases n <;> simp [AV.dat]
theorem nd_cls (n k) : AV.dat n (.cls k) = false := by cases n <;> simp [AV.dat]
theorem nd_xcls (n k) : AV.dat n (.xcls k) = false := by cases n <;> simp [AV.dat]
theorem nd_ty (n k) : AV.dat n (.ty k) = false := by cases n <;> simp [AV.dat]
theorem nd_exc (n k x) : AV.dat n (.exc k x) = false := by cases n <;> simp [AV.dat]
theorem nd_obj (n k x) : AV.dat n (.obj k x) = false := by cases n <;> simp [AV.dat]
theorem nd_dct (n k) : AV.dat n (.dct k) = false := by cases n <;> simp [AV.dat]
theorem str_beq (x y : List Nat) : ((⟨x.toArray⟩ : Str) == ⟨y.toArray⟩) = (x == y) := by
  by_cases e : x = y
  · subst e; simp
  · have h1 : (x == y) = false := beq_eq_false_iff_ne.mpr e
    rw [h1]
    refine beq_eq_false_iff_ne.mpr fun z => e ?_
    have := congrArg Str.cps z
    simpa using congrArg Array.toList this
theorem eqv_pd : ∀ (n : Nat) (a b : AV) (m : Nat), a.dat n = true → b.dat m = true → PyData.eqv (toPD a) (toPD b) = a.eqv b := by
  intro n
  induction n with
  | zero =>
    intro a b m ha hb
    cases a <;> first | (simp [AV.dat] at ha; done) | (cases b <;> first | (simp [nd_ref, nd_fn, nd_clo, nd_cls, nd_xcls, nd_ty, nd_exc, nd_obj, nd_dct] at hb; done) | (simp only [toPD, PyData.eqv, AV.eqv]; done) | (simp only [toPD, PyData.eqv, AV.eqv]; exact str_beq _ _))
  | succ n ih =>
    intro a b m ha hb
    have L := eqvs_of ih
    cases a <;> first | (simp [AV.dat] at ha; done) | (cases b <;> first | (simp [nd_ref, nd_fn, nd_clo, nd_cls, nd_xcls, nd_ty, nd_exc, nd_obj, nd_dct] at hb; done) | (simp only [toPD, PyData.eqv, AV.eqv]; done) | (simp only [toPD, PyData.eqv, AV.eqv]; exact str_beq _ _) | skip)
    · cases m with
      | zero => simp [AV.dat] at hb
      | succ m =>
        simp only [toPD, PyData.eqv, AV.eqv]
        exact L _ _ m (by simpa [AV.dat] using ha) (by simpa [AV.dat] using hb)
    · cases m with
      | zero => simp [AV.dat] at hb
      | succ m =>
        simp only [toPD, PyData.eqv, AV.eqv]
        exact L _ _ m (by simpa [AV.dat] using ha) (by simpa [AV.dat] using hb)
theorem any_pd {x : AV} (hx : x.dat DD = true) : ∀ (ys : List AV), AV.datAll DD ys = true → ((toPDs ys).any fun z => PyData.eqv z (toPD x)) = ys.any fun y => y.eqv x
  | [], _ => rfl
  | y :: ys, h => by
    have h' : y.dat DD = true ∧ AV.datAll DD ys = true := by simpa [AV.datAll] using h
    simp only [toPDs, List.any_cons]
    rw [eqv_pd _ _ _ _ h'.1 hx, any_pd hx ys h'.2]
end Tp
end
section
set_option Elab.async false
set_option linter.all false
set_option maxRecDepth 100000
set_option maxHeartbeats 1000000

namespace Tp
open PySem PySem.Spec PyProof.Rows L2

section
variable {R : Rx} {μ : List Addr} {h h1 : AHp} {H : Hp}
theorem lstOf_ok {v : AV} {w : V} {xs : List AV} (hr : HRel R μ h H) (r : Rep R μ H v w) (e : lstOf v h = .ok xs h1) :
    h1 = h ∧ ∃ a vs, w = .ref a ∧ Rd H a (.lst vs) ∧ RepL R μ H xs vs := by
  unfold lstOf at e
  split at e
  · cases e
    obtain ⟨a, vs, e1, h2, _, h3⟩ := r
    exact ⟨rfl, a, vs, e1, h2, h3⟩
  · rename_i n
    split at e
    · rename_i q
      cases e
      obtain ⟨a, h2, e1⟩ := r
      obtain ⟨vs, z, h3, _⟩ := hr.obj n _ a q h2
      exact ⟨rfl, a, vs, e1, .of z, h3⟩
    · cases e
  · cases e
theorem lstOf_no {v : AV} {c : Nat} {x : AV} (e : lstOf v h = .exc c x h1) : False := by
  unfold lstOf at e
  split at e
  · cases e
  · split at e <;> cases e
  · cases e

theorem seqOf_ok {v : AV} {w : V} {xs : List AV} (hr : HRel R μ h H) (r : Rep R μ H v w) (e : seqOf v h = .ok xs h1) :
    h1 = h ∧ ∃ a vs, w = .ref a ∧ RepL R μ H xs vs ∧ ((Rd H a (.lst vs) ∧ ∀ ys, v ≠ .tup ys) ∨ (SqT R.K H a vs ∧ v = .tup xs)) := by
  unfold seqOf at e
  split at e
  · cases e
    obtain ⟨a, vs, e1, h2, h3⟩ := r
    exact ⟨rfl, a, vs, e1, h3, .inr ⟨h2, rfl⟩⟩
  · rename_i hn
    obtain ⟨e0, a, vs, e1, h2, h3⟩ := lstOf_ok hr r e
    exact ⟨e0, a, vs, e1, h3, .inl ⟨h2, fun ys z => hn ys z⟩⟩
theorem seqOf_no {v : AV} {c : Nat} {x : AV} (e : seqOf v h = .exc c x h1) : False := by
  unfold seqOf at e
  split at e
  · cases e
  · exact lstOf_no e
theorem deref_ok {v : AV} {w : V} {a : AV} (hr : HRel R μ h H) (r : Rep R μ H v w) (e : deref v h = .ok a h1) (n : Nat) (d : a.dat n = true) :
    h1 = h ∧ Dp R.K H w (toPD a) := by
  unfold deref at e
  split at e
  · rename_i k
    split at e
    · rename_i xs q
      cases e
      obtain ⟨b, h2, e1⟩ := r
      obtain ⟨vs, z, h3, _⟩ := hr.obj k _ b q h2
      subst e1
      cases n with
      | zero => simp [AV.dat] at d
      | succ n => exact ⟨rfl, .lst (.of z) (dat_dps n xs vs (by simpa [AV.dat] using d) h3)⟩
    · cases e
  · cases e
    exact ⟨rfl, dat_dp n _ w d r⟩
theorem deref_no {v : AV} {c : Nat} {x : AV} (e : deref v h = .exc c x h1) : False := by
  unfold deref at e
  split at e
  · split at e <;> cases e
  · cases e
end
section
variable {R : Rx} {W : WX} {σ : L2.St} {μ : List Addr} {h : AHp} {H : Hp} {Q : VK}

theorem Post.lst {k : List AV → M AV} {v : AV} {w : V} (p : Post R W σ μ H (bind (lstOf v) k h) Q) (hr : HRel R μ h H) (r : Rep R μ H v w) :
    ∃ xs a vs, w = .ref a ∧ Rd H a (.lst vs) ∧ RepL R μ H xs vs ∧ Post R W σ μ H (k xs h) Q := by
  cases e : lstOf v h with
  | ok xs h1 =>
    obtain ⟨rfl, a, vs, e1, h2, h3⟩ := lstOf_ok hr r e
    rw [bind_ok e] at p
    exact ⟨xs, a, vs, e1, h2, h3, p⟩
  | exc c x h1 => exact (lstOf_no e).elim
  | stuck =>
    rw [bind_stuck e] at p
    exact p.elim
theorem Post.seq {k : List AV → M AV} {v : AV} {w : V} (p : Post R W σ μ H (bind (seqOf v) k h) Q) (hr : HRel R μ h H) (r : Rep R μ H v w) :
    ∃ xs a vs, w = .ref a ∧ RepL R μ H xs vs ∧ ((Rd H a (.lst vs) ∧ ∀ ys, v ≠ .tup ys) ∨ (SqT R.K H a vs ∧ v = .tup xs)) ∧ Post R W σ μ H (k xs h) Q := by
  cases e : seqOf v h with
  | ok xs h1 =>
    obtain ⟨rfl, a, vs, e1, h2, h3⟩ := seqOf_ok hr r e
    rw [bind_ok e] at p
    exact ⟨xs, a, vs, e1, h2, h3, p⟩
  | exc c x h1 => exact (seqOf_no e).elim
  | stuck =>
    rw [bind_stuck e] at p
    exact p.elim
theorem Post.opt {α : Type} {k : α → M AV} {o : Option α} (p : Post R W σ μ H (bind (ofOpt o) k h) Q) : ∃ a, o = some a ∧ Post R W σ μ H (k a h) Q := by
  cases o with
  | none => exact p.elim
  | some a => exact ⟨a, rfl, p⟩
theorem Post.iteP {c : Prop} [Decidable c] {m : M AV} (p : Post R W σ μ H ((if c then m else fail) h) Q) : c ∧ Post R W σ μ H (m h) Q := by
  by_cases e : c
  · rw [if_pos e] at p; exact ⟨e, p⟩
  · rw [if_neg e] at p; exact p.elim
end


def Snd2 (R : Rx) (X : Cx) (f : Value → Value → Sem Value) (op : AV → AV → M AV) : Prop :=
  ∃ r : R2, OpR X f r ∧ ∀ (W : WX) (σ : L2.St) (μ : List Addr) (H : Hp) (h : AHp) (a b : AV) (v w : V) (Q : VK), HRel R μ h H → Rep R μ H a v → Rep R μ H b w → Post R W σ μ H (op a b h) Q → r v w H Q

section
variable {R : Rx} {X : Cx}
theorem small64_ok {i : Int} (h : small64 i = true) : -(2 ^ 64) < i ∧ i < 2 ^ 64 := by
  unfold small64 at h
  obtain ⟨a, b⟩ := Bool.and_eq_true_iff.mp h
  exact ⟨of_decide_eq_true a, of_decide_eq_true b⟩
theorem str_len (s : List Nat) : (⟨s.toArray⟩ : Str).length = s.length := by simp [Str.length]
theorem str_app (x y : List Nat) : (⟨x.toArray⟩ : Str) ++ ⟨y.toArray⟩ = ⟨(x ++ y).toArray⟩ := by
  show Str.append _ _ = _
  simp [Str.append]
theorem snd_add (hK : X.K = R.K) : Snd2 R X (binaryOp .Add) opAdd := by
  refine ⟨_, op_add.or (op_add_str.or (op_catA.or op_catR)), fun W σ μ H h a b v w Q hr ra rb p => ?_⟩
  unfold opAdd at p
  split at p
  · exact .inl ⟨_, _, ra, rb, p.ok hr rfl⟩
  · obtain ⟨hl, p⟩ := p.iteP
    refine .inr (.inl ⟨_, _, ra, rb, by rw [str_len, str_len, ← SL_eq]; exact hl, ?_⟩)
    rw [str_app]
    exact p.ok hr rfl
  · obtain ⟨hl, p⟩ := p.iteP
    obtain ⟨a1, vs, rfl, h1, h2⟩ := ra
    obtain ⟨a2, ws, rfl, h3, h4⟩ := rb
    rw [← hK] at h1 h3
    refine .inr (.inr (.inl ⟨a1, a2, vs, ws, rfl, rfl, h1, h3, by rw [h2.length, h4.length, ← SL_eq]; exact hl, fun e => ?_, fun _ e => ?_, fun _ _ => p.newTup hr (h2.append h4)⟩))
    · rw [h2.nil_iff.mp e, List.nil_append] at p
      exact p.ok hr ⟨a2, ws, rfl, hK ▸ h3, h4⟩
    · rw [h4.nil_iff.mp e, List.append_nil] at p
      exact p.ok hr ⟨a1, vs, rfl, hK ▸ h1, h2⟩
  · obtain ⟨xs, a1, vs, rfl, h1, h2, p⟩ := p.lst hr ra
    obtain ⟨ys, a2, ws, rfl, h3, h4, p⟩ := p.lst hr rb
    obtain ⟨hl, p⟩ := p.iteP
    exact .inr (.inr (.inr ⟨a1, a2, vs, ws, rfl, rfl, h1, h3, by rw [h2.length, h4.length, ← SL_eq]; exact hl, p.newLst hr (h2.append h4)⟩))
  · obtain ⟨a1, vs, rfl, h1, _, h2⟩ := ra
    obtain ⟨ys, a2, ws, rfl, h3, h4, p⟩ := p.lst hr rb
    obtain ⟨hl, p⟩ := p.iteP
    exact .inr (.inr (.inr ⟨a1, a2, vs, ws, rfl, rfl, h1, h3, by rw [h2.length, h4.length, ← SL_eq]; exact hl, p.newLst hr (h2.append h4)⟩))
  · exact p.elim
theorem snd_sub : Snd2 R X (binaryOp .Sub) opSub := by
  refine ⟨_, op_sub, fun W σ μ H h a b v w Q hr ra rb p => ?_⟩
  unfold opSub at p
  split at p
  · exact ⟨_, _, ra, rb, p.ok hr rfl⟩
  · exact p.elim
theorem snd_mul (hK : X.K = R.K) : Snd2 R X (binaryOp .Mult) opMul := by
  refine ⟨_, op_mul.or op_repW, fun W σ μ H h a b v w Q hr ra rb p => ?_⟩
  unfold opMul at p
  split at p
  · obtain ⟨c, p⟩ := p.iteP
    refine .inl ⟨_, _, ra, rb, ?_, p.ok hr rfl⟩
    rcases Bool.or_eq_true_iff.mp c with c | c
    · exact .inl (small64_ok c)
    · exact .inr (small64_ok c)
  · obtain ⟨⟨c1, c2, c3, c4⟩, p⟩ := p.iteP
    obtain ⟨a1, vs, rfl, h1, h2⟩ := ra
    rw [← hK] at h1
    exact .inr ⟨a1, _, vs, rfl, rb, h1, fun e => c1 (h2.nil_iff.mp e), c2, c3, by rw [h2.length, ← SL_eq]; exact c4, p.newTup hr (h2.rep _)⟩
  · exact p.elim
theorem snd_fdiv : Snd2 R X (binaryOp .FloorDiv) opFdiv := by
  refine ⟨_, op_fdiv, fun W σ μ H h a b v w Q hr ra rb p => ?_⟩
  unfold opFdiv at p
  split at p
  · obtain ⟨c, p⟩ := p.iteP
    exact ⟨_, _, ra, rb, c, p.ok hr rfl⟩
  · exact p.elim
theorem snd_mod : Snd2 R X (binaryOp .Mod) opMod := by
  refine ⟨_, op_mod, fun W σ μ H h a b v w Q hr ra rb p => ?_⟩
  unfold opMod at p
  split at p
  · obtain ⟨c, p⟩ := p.iteP
    exact ⟨_, _, ra, rb, c, p.ok hr rfl⟩
  · exact p.elim
theorem snd_pow : Snd2 R X (binaryOp .Pow) opPow := by
  refine ⟨_, op_pow, fun W σ μ H h a b v w Q hr ra rb p => ?_⟩
  unfold opPow at p
  split at p
  · obtain ⟨c, p⟩ := p.iteP
    exact ⟨_, _, ra, rb, c, p.ok hr rfl⟩
  · exact p.elim
theorem snd_none {f : Value → Value → Sem Value} : Snd2 R X f (fun _ _ => fail) := ⟨fun _ _ _ _ => False, fun _ _ _ _ _ _ _ _ _ _ _ _ h => h.elim, fun W σ μ H h a b v w Q hr ra rb p => p⟩
theorem snd_bin (hK : X.K = R.K) (op : Operator) : Snd2 R X (binaryOp op) (opBin op) := by
  cases op with
  | Add => exact snd_add hK
  | Sub => exact snd_sub
  | Mult => exact snd_mul hK
  | FloorDiv => exact snd_fdiv
  | Mod => exact snd_mod
  | Pow => exact snd_pow
  | _ => exact snd_none

theorem snd_eq (hK : X.K = R.K) (hu : X.A.units + 65 < cLine) : Snd2 R X (compareOp .Eq) opEq := by
  refine ⟨_, op_eqD (by omega), fun W σ μ H h a b v w Q hr ra rb p => ?_⟩
  unfold opEq at p
  cases ea : deref a h with
  | stuck => rw [bind_stuck ea] at p; exact p.elim
  | exc c x h1 => exact (deref_no ea).elim
  | ok a' h1 =>
    rw [bind_ok ea] at p
    cases eb : deref b h1 with
    | stuck => rw [bind_stuck eb] at p; exact p.elim
    | exc c x h1 => exact (deref_no eb).elim
    | ok b' h2 =>
      rw [bind_ok eb] at p
      obtain ⟨c, p⟩ := p.iteP
      obtain ⟨da, db⟩ := Bool.and_eq_true_iff.mp c
      obtain ⟨rfl, d1⟩ := deref_ok hr ra ea _ da
      obtain ⟨rfl, d2⟩ := deref_ok hr rb eb _ db
      refine ⟨toPD a', toPD b', hK ▸ d1, hK ▸ d2, dat_shaped da, dat_shaped db, ?_⟩
      rw [eqv_pd _ _ _ _ da db]
      exact p.ok hr rfl
theorem snd_ne (hK : X.K = R.K) (hu : X.A.units + 65 < cLine) : Snd2 R X (compareOp .NotEq) opNe := by
  refine ⟨_, op_neD (by omega), fun W σ μ H h a b v w Q hr ra rb p => ?_⟩
  unfold opNe at p
  cases ea : deref a h with
  | stuck => rw [bind_stuck ea] at p; exact p.elim
  | exc c x h1 => exact (deref_no ea).elim
  | ok a' h1 =>
    rw [bind_ok ea] at p
    cases eb : deref b h1 with
    | stuck => rw [bind_stuck eb] at p; exact p.elim
    | exc c x h1 => exact (deref_no eb).elim
    | ok b' h2 =>
      rw [bind_ok eb] at p
      obtain ⟨c, p⟩ := p.iteP
      obtain ⟨da, db⟩ := Bool.and_eq_true_iff.mp c
      obtain ⟨rfl, d1⟩ := deref_ok hr ra ea _ da
      obtain ⟨rfl, d2⟩ := deref_ok hr rb eb _ db
      refine ⟨toPD a', toPD b', hK ▸ d1, hK ▸ d2, dat_shaped da, dat_shaped db, ?_⟩
      rw [eqv_pd _ _ _ _ da db]
      exact p.ok hr rfl
theorem snd_int {op : CmpOp} {g : Int → Int → Bool} (ho : OpR X (compareOp op) (rI0 fun i j => .bl (g i j))) (hc : ∀ a b, opCmp op a b = (match a, b with
    | .int i, .int j => ret (.bl (g i j))
    | _, _ => fail)) : Snd2 R X (compareOp op) (opCmp op) := by
  refine ⟨_, ho, fun W σ μ H h a b v w Q hr ra rb p => ?_⟩
  rw [hc] at p
  split at p
  · exact ⟨_, _, ra, rb, p.ok hr rfl⟩
  · exact p.elim

theorem flat_rep {R : Rx} {μ : List Addr} {H : Hp} {a : AV} {v : V} (f : flat a = true) (r : Rep R μ H a v) : flatV v = true := by
  cases a <;> first | (simp [flat] at f; done) | (rw [show v = _ from r]; rfl)
theorem flats_rep {R : Rx} {μ : List Addr} {H : Hp} : ∀ {xs : List AV} {vs : List V}, xs.all flat = true → RepL R μ H xs vs → vs.all flatV = true
  | [], _, _, h => by rw [show _ = [] from h]; rfl
  | x :: xs, _, f, h => by
    obtain ⟨v, r, rfl, h1, h2⟩ := h
    obtain ⟨f1, f2⟩ := Bool.and_eq_true_iff.mp (show (flat x && xs.all flat) = true from f)
    show (flatV v && r.all flatV) = true
    rw [flat_rep f1 h1, flats_rep f2 h2]
    rfl
theorem eqV_rep {R : Rx} {μ : List Addr} {H : Hp} {a b : AV} {v w : V} (fa : flat a = true) (fb : flat b = true) (ra : Rep R μ H a v) (rb : Rep R μ H b w) : eqV v w = a.eqv b := by
  cases a <;> first | (simp [flat] at fa; done) | (cases b <;> first | (simp [flat] at fb; done) | (rw [show v = _ from ra, show w = _ from rb]; first | (simp only [eqV, AV.eqv]; done) | (simp only [eqV, AV.eqv]; exact str_beq _ _) | (simp only [eqV, AV.eqv] <;> rfl)))
theorem inV_rep {R : Rx} {μ : List Addr} {H : Hp} {x : AV} {v : V} (fx : flat x = true) (rx : Rep R μ H x v) : ∀ {xs : List AV} {vs : List V}, xs.all flat = true → RepL R μ H xs vs → inV v vs = xs.any fun y => y.eqv x
  | [], _, _, h => by rw [show _ = [] from h]; rfl
  | y :: xs, _, f, h => by
    obtain ⟨u, r, rfl, h1, h2⟩ := h
    obtain ⟨f1, f2⟩ := Bool.and_eq_true_iff.mp (show (flat y && xs.all flat) = true from f)
    show (eqV u v || inV v r) = (y.eqv x || xs.any fun y => y.eqv x)
    rw [eqV_rep f1 fx h1 rx, inV_rep fx rx f2 h2]

theorem opIn_cases {R : Rx} {W : WX} {σ : L2.St} {μ : List Addr} {H : Hp} {h : AHp} {a b : AV} {v w : V} {Q : VK} {g : Bool → Bool} {k : AV → M AV} (hr : HRel R μ h H) (ra : Rep R μ H a v) (rb : Rep R μ H b w)
    (hk : ∀ c, k (.bl c) = ret (.bl (g c))) (p : Post R W σ μ H (bind (opIn a b) k h) Q) :
    (∃ d ds, Dp R.K H v d ∧ Dp R.K H w (.list ds) ∧ SeqAt.shaped d = true ∧ SeqAt.shaped (.list ds) = true ∧ Q (.bl (g (ds.any fun z => PyData.eqv z d))) H) ∨
    (∃ p xs, w = .ref p ∧ SqT R.K H p xs ∧ flatV v = true ∧ xs.all flatV = true ∧ Q (.bl (g (inV v xs))) H) ∨
    ∃ (c : Nat) (z : Str), v = .str ⟨#[c]⟩ ∧ w = .str z ∧ Q (.bl (g (decide (c ∈ z.cps.toList)))) H := by
  unfold opIn at p
  split at p
  · rename_i ys
    by_cases c : (a.dat DD && AV.datAll DD ys) = true
    · rw [if_pos c] at p
      obtain ⟨d1, d2⟩ := Bool.and_eq_true_iff.mp c
      refine .inl ⟨toPD a, toPDs ys, dat_dp _ _ _ d1 ra, dat_dp (DD + 1) (.lst ys) w (by simpa [AV.dat] using d2) rb, dat_shaped d1, dats_shaped d2, ?_⟩
      rw [any_pd d1 ys d2]
      have p' : Post R W σ μ H (k (.bl (ys.any fun y => y.eqv a)) h) Q := p
      rw [hk] at p'
      exact p'.ok hr rfl
    · rw [if_neg c] at p
      exact p.elim
  · rename_i ys
    by_cases c : (flat a && ys.all flat) = true
    · rw [if_pos c] at p
      obtain ⟨d1, d2⟩ := Bool.and_eq_true_iff.mp c
      obtain ⟨a1, vs, rfl, h1, h2⟩ := rb
      refine .inr (.inl ⟨a1, vs, rfl, h1, flat_rep d1 ra, flats_rep d2 h2, ?_⟩)
      rw [inV_rep d1 ra d2 h2]
      have p' : Post R W σ μ H (k (.bl (ys.any fun y => y.eqv a)) h) Q := p
      rw [hk] at p'
      exact p'.ok hr rfl
    · rw [if_neg c] at p
      exact p.elim
  · rename_i s
    split at p
    · rename_i c
      refine .inr (.inr ⟨c, ⟨s.toArray⟩, ra, rb, ?_⟩)
      have p' : Post R W σ μ H (k (.bl (decide (c ∈ s))) h) Q := p
      rw [hk] at p'
      have e : decide (c ∈ (⟨s.toArray⟩ : Str).cps.toList) = decide (c ∈ s) := by simp
      rw [e]
      exact p'.ok hr rfl
    · exact p.elim
  · exact p.elim
theorem snd_in (hK : X.K = R.K) (hu : X.A.units + 65 < cLine) : Snd2 R X (compareOp .In) opIn := by
  refine ⟨_, (op_inD hu).or (op_in_seq.or op_in_sign), fun W σ μ H h a b v w Q hr ra rb p => ?_⟩
  have p' : Post R W σ μ H (bind (opIn a b) ret h) Q := by
    have e : bind (opIn a b) ret h = opIn a b h := by unfold bind; cases opIn a b h <;> rfl
    rw [e]; exact p
  rcases opIn_cases (g := id) hr ra rb (fun c => rfl) p' with ⟨d, ds, h1, h2, h3, h4, q⟩ | ⟨b1, xs, e, h1, h2, h3, q⟩ | ⟨c, z, e1, e2, q⟩
  · exact .inl ⟨d, ds, hK ▸ h1, hK ▸ h2, h3, h4, q⟩
  · exact .inr (.inl ⟨b1, xs, e, .inr (hK ▸ h1), h2, h3, q⟩)
  · exact .inr (.inr ⟨c, z, e1, e2, q⟩)
theorem snd_notIn (hK : X.K = R.K) (hu : X.A.units + 65 < cLine) : Snd2 R X (compareOp .NotIn) (opCmp .NotIn) := by
  refine ⟨_, (op_notInD hu).or (op_notIn_seq.or op_notIn_sign), fun W σ μ H h a b v w Q hr ra rb p => ?_⟩
  rcases opIn_cases (g := fun b => !b) hr ra rb (fun c => rfl) p with ⟨d, ds, h1, h2, h3, h4, q⟩ | ⟨b1, xs, e, h1, h2, h3, q⟩ | ⟨c, z, e1, e2, q⟩
  · exact .inl ⟨d, ds, hK ▸ h1, hK ▸ h2, h3, h4, q⟩
  · exact .inr (.inl ⟨b1, xs, e, .inr (hK ▸ h1), h2, h3, q⟩)
  · exact .inr (.inr ⟨c, z, e1, e2, q⟩)
theorem rep_non {R : Rx} {μ : List Addr} {H : Hp} {a : AV} {v : V} (r : Rep R μ H a v) (n : a ≠ .non) : v ≠ .non := by
  intro e
  subst e
  cases a with
  | non => exact n rfl
  | bl b => cases (show V.non = V.bl b from r)
  | int i => cases (show V.non = V.int i from r)
  | str i => cases (show V.non = V.str _ from r)
  | tup xs => obtain ⟨_, _, z, _⟩ := r; cases z
  | lst xs => obtain ⟨_, _, z, _⟩ := r; cases z
  | ref k => obtain ⟨_, _, z⟩ := r; cases z
  | fn k => cases r.1
  | cls k => cases r.1
  | xcls k => cases r.1
  | ty k => cases (show V.non = V.ty k from r)
  | exc k x => obtain ⟨_, _, _, _, _, z, _⟩ := r; cases z
  | obj k fs => obtain ⟨_, _, _, z, _⟩ := r; cases z
  | clo k cs => obtain ⟨_, _, z, _⟩ := r; cases z
  | dct kvs => exact r
theorem opIs_cases {R : Rx} {W : WX} {σ : L2.St} {μ : List Addr} {H : Hp} {h : AHp} {a b : AV} {v w : V} {Q : VK} {g : Bool → Bool} {k : AV → M AV} (hr : HRel R μ h H) (ra : Rep R μ H a v) (rb : Rep R μ H b w)
    (hk : ∀ c, k (.bl c) = ret (.bl (g c))) (p : Post R W σ μ H (bind (opIs a b) k h) Q) :
    (w = .non ∧ Q (.bl (g (decide (v = .non)))) H) ∨ ∃ x y : Bool, v = .bl x ∧ w = .bl y ∧ Q (.bl (g (decide (x = y)))) H := by
  unfold opIs at p
  split at p
  · refine .inl ⟨rb, ?_⟩
    split at p
    · rw [show v = _ from ra, decide_eq_true rfl]
      have p' : Post R W σ μ H (k (.bl true) h) Q := p
      rw [hk] at p'
      exact p'.ok hr rfl
    · rename_i hn
      rw [decide_eq_false (rep_non ra fun z => hn z)]
      have p' : Post R W σ μ H (k (.bl false) h) Q := p
      rw [hk] at p'
      exact p'.ok hr rfl
  · split at p
    · rename_i y _ x
      refine .inr ⟨x, y, ra, rb, ?_⟩
      have p' : Post R W σ μ H (k (.bl (x == y)) h) Q := p
      rw [hk] at p'
      rw [← Bool.beq_eq_decide_eq]
      exact p'.ok hr rfl
    · exact p.elim
  · exact p.elim
theorem snd_is : Snd2 R X (compareOp .Is) opIs := by
  refine ⟨_, op_isN.or op_isBl, fun W σ μ H h a b v w Q hr ra rb p => ?_⟩
  have p' : Post R W σ μ H (bind (opIs a b) ret h) Q := by
    have e : bind (opIs a b) ret h = opIs a b h := by unfold bind; cases opIs a b h <;> rfl
    rw [e]; exact p
  rcases opIs_cases (g := id) hr ra rb (fun c => rfl) p' with ⟨e, q⟩ | ⟨x, y, e1, e2, q⟩
  · exact .inl ⟨e, q⟩
  · exact .inr ⟨x, y, e1, e2, q⟩
theorem snd_isNot : Snd2 R X (compareOp .IsNot) (opCmp .IsNot) := by
  refine ⟨_, op_notN.or op_notBl, fun W σ μ H h a b v w Q hr ra rb p => ?_⟩
  rcases opIs_cases (g := fun b => !b) hr ra rb (fun c => rfl) p with ⟨e, q⟩ | ⟨x, y, e1, e2, q⟩
  · exact .inl ⟨e, q⟩
  · exact .inr ⟨x, y, e1, e2, q⟩
theorem snd_cmp (hK : X.K = R.K) (hu : X.A.units + 65 < cLine) (op : CmpOp) : Snd2 R X (compareOp op) (opCmp op) := by
  cases op with
  | Eq => exact snd_eq hK hu
  | NotEq => exact snd_ne hK hu
  | Lt => exact snd_int op_lt fun a b => by cases a <;> cases b <;> rfl
  | LtE => exact snd_int op_le fun a b => by cases a <;> cases b <;> rfl
  | Gt => exact snd_int op_gt fun a b => by cases a <;> cases b <;> rfl
  | GtE => exact snd_int op_ge fun a b => by cases a <;> cases b <;> rfl
  | In => exact snd_in hK hu
  | NotIn => exact snd_notIn hK hu
  | Is => exact snd_is
  | IsNot => exact snd_isNot
end
end Tp
end
section
set_option Elab.async false
set_option linter.all false
set_option maxRecDepth 100000
set_option maxHeartbeats 1000000

namespace Tp
open PySem PySem.Spec PyProof.Rows L2

theorem _root_.L2.PE.imp {X : Cx} {e : Expr} {t t' : TE} (h : PE X e t) (i : ∀ σ H Q, t' σ H Q → t σ H Q) : PE X e t' := ⟨fun pins s σ H Q I q => h.run pins s σ H Q I (i σ H Q q)⟩
theorem _root_.L2.PT.imp {X : Cx} {e : Expr} {t t' : TT} (h : PT X e t) (i : ∀ σ H Q, t' σ H Q → t σ H Q) : PT X e t' := ⟨fun pins s σ H Q I q => h.run pins s σ H Q I (i σ H Q q)⟩
theorem _root_.L2.PW.imp {X : Cx} {e : Expr} {t t' : TT} (h : PW X e t) (i : ∀ σ H Q, t' σ H Q → t σ H Q) : PW X e t' := ⟨fun wh pins s σ H Q I q => h.run wh pins s σ H Q I (i σ H Q q)⟩
theorem _root_.L2.PA.imp {X : Cx} {e : List Expr} {t t' : TA} (h : PA X e t) (i : ∀ σ H Q, t' σ H Q → t σ H Q) : PA X e t' := ⟨fun pos pins s σ H Q I q => h.run pos pins s σ H Q I (i σ H Q q)⟩
abbrev AE (R : Rx) (X : Cx) (W : WX) (e : Expr) (m : DE) : Prop := PE X e (rdE R W m)
abbrev AT (R : Rx) (X : Cx) (W : WX) (e : Expr) (m : DT) : Prop := PT X e (rdT R W m)
abbrev AA (R : Rx) (X : Cx) (W : WX) (es : List Expr) (m : DA) : Prop := PA X es (rdA R W m)

section
variable {R : Rx} {X : Cx} {W : WX}

theorem _root_.L2.PE.never {e : Expr} {t : TE} (h : ∀ σ H Q, ¬ t σ H Q) : PE X e t := ⟨fun _ _ σ H Q _ q => (h σ H Q q).elim⟩
theorem _root_.L2.PT.never {e : Expr} {t : TT} (h : ∀ σ H Q, ¬ t σ H Q) : PT X e t := ⟨fun _ _ σ H Q _ q => (h σ H Q q).elim⟩
theorem _root_.L2.PA.never {e : List Expr} {t : TA} (h : ∀ σ H Q, ¬ t σ H Q) : PA X e t := ⟨fun _ _ _ σ H Q _ q => (h σ H Q q).elim⟩
theorem ae_fail {e : Expr} : AE R X W e eFail := PE.never fun σ H Q ⟨_, _, _, _, _, p⟩ => p
theorem at_fail {e : Expr} : AT R X W e (fun _ => fail) := PT.never fun σ H Q ⟨_, _, _, _, _, p⟩ => p
theorem aa_fail {e : List Expr} : AA R X W e (fun _ => fail) := PA.never fun σ H Q ⟨_, _, _, _, _, p⟩ => p

theorem ae_const {v : V} {e : Expr} {av : AV} (h : PE X e (tC v)) (r : ∀ μ H, Rep R μ H av v) : AE R X W e (eVal av) := h.imp fun σ H Q ⟨μ, env, h, S, hr, p⟩ => p.ok hr (r μ H)
theorem ae_var {i : Nat} {e : Expr} (h : PE X e (tVar i)) : AE R X W e (eVar i) := h.imp fun σ H Q ⟨μ, env, h, S, hr, p⟩ => by
  cases q : env[i]? with
  | none =>
    have e : eVar i env = fail := by unfold eVar; rw [q]
    rw [e] at p
    exact p.elim
  | some o =>
    cases o with
    | none =>
      have e : eVar i env = fail := by unfold eVar; rw [q]
      rw [e] at p
      exact p.elim
    | some v =>
      have e : eVar i env = ret v := by unfold eVar; rw [q]
      rw [e] at p
      obtain ⟨w, e1, e2⟩ := S.slot i v q
      exact ⟨w, e1, p.ok hr e2⟩
theorem ae_bin {op : Operator} {a b : Expr} {m1 m2 : DE} {pos : Pos} (s2 : Snd2 R X (binaryOp op) (opBin op)) (ha : AE R X W a m1) (hb : AE R X W b m2) : AE R X W (.BinOp a op b pos) (eBin op m1 m2) := by
  obtain ⟨r, ho, hk⟩ := s2
  refine (pe_op ho ha hb).imp fun σ H Q ⟨μ, env, h, S, hr, p⟩ => ?_
  refine rdE_bind S hr p fun av h1 μ1 H1 v ev S1 hr1 rv p => ?_
  refine rdE_bind S1 hr1 p fun bv h2 μ2 H2 w ev2 S2 hr2 rw' p => ?_
  exact hk W σ μ2 H2 h2 av bv v w Q hr2 (rv.ev hr1.cells ev2) rw' p
theorem ae_cmp {op : CmpOp} {a b : Expr} {m1 m2 : DE} {pos : Pos} (s2 : Snd2 R X (compareOp op) (opCmp op)) (ha : AE R X W a m1) (hb : AE R X W b m2) (hm : behindInMarks op b = false) : AE R X W (.Compare a [op] [b] pos) (eCmp op m1 m2) := by
  obtain ⟨r, ho, hk⟩ := s2
  refine (pe_cmpR ho ha hb hm).imp fun σ H Q ⟨μ, env, h, S, hr, p⟩ => ?_
  refine rdE_bind S hr p fun av h1 μ1 H1 v ev S1 hr1 rv p => ?_
  refine rdE_bind S1 hr1 p fun bv h2 μ2 H2 w ev2 S2 hr2 rw' p => ?_
  exact hk W σ μ2 H2 h2 av bv v w Q hr2 (rv.ev hr1.cells ev2) rw' p
theorem Post_asB {σ : L2.St} {μ : List Addr} {H : Hp} {h : AHp} {m : M AV} {Q : Bool → Hp → Prop} (p : PostT R W σ μ H (bind m asB h) Q) : Post R W σ μ H (m h) (fun x H' => ∃ k, x = .bl k ∧ Q k H') := by
  cases e : m h with
  | stuck => rw [bind_stuck e] at p; exact p
  | exc c x h1 => rw [bind_exc e] at p; exact p
  | ok a h1 =>
    rw [bind_ok e] at p
    intro μ' H' v ev hr r
    cases a with
    | bl b => exact ⟨b, r, p μ' H' ev hr⟩
    | _ => exact p.elim
theorem at_cmp {op : CmpOp} {a b : Expr} {m1 m2 : DE} {pos : Pos} (s2 : Snd2 R X (compareOp op) (opCmp op)) (ha : AE R X W a m1) (hb : AE R X W b m2) (hm : behindInMarks op b = false) : AT R X W (.Compare a [op] [b] pos) (tB (eCmp op m1 m2)) := by
  obtain ⟨r, ho, hk⟩ := s2
  refine (pt_cmpR ho ha hb hm).imp fun σ H Q ⟨μ, env, h, S, hr, p⟩ => ?_
  have p' := Post_asB p
  refine rdE_bind S hr p' fun av h1 μ1 H1 v ev S1 hr1 rv p => ?_
  refine rdE_bind S1 hr1 p fun bv h2 μ2 H2 w ev2 S2 hr2 rw' p => ?_
  exact hk W σ μ2 H2 h2 av bv v w _ hr2 (rv.ev hr1.cells ev2) rw' p

theorem Post_blk {σ : L2.St} {μ : List Addr} {H : Hp} {h : AHp} {m : M AV} {k : AV → M AV} {Q : VK} (p : Post R W σ μ H (bind m k h) Q) (hk : ∀ v, (∀ b, v ≠ .bl b) → k v = fail) :
    Post R W σ μ H (m h) (fun x H' => ∃ c, x = .bl c ∧ ∃ μ' h', Ev μ H μ' H' ∧ HRel R μ' h' H' ∧ Post R W σ μ' H' (k (.bl c) h') Q) := by
  cases e : m h with
  | stuck => rw [bind_stuck e] at p; exact p
  | exc c x h1 => rw [bind_exc e] at p; exact p
  | ok a h1 =>
    rw [bind_ok e] at p
    intro μ' H' v ev hr r
    by_cases q : ∃ b, a = .bl b
    · obtain ⟨b, rfl⟩ := q
      exact ⟨b, r, μ', h1, ev, hr, p.ev ev⟩
    · rw [hk a fun b z => q ⟨b, z⟩] at p
      exact p.elim
theorem chain_rd {op op' : CmpOp} {r r' : R2} {m1 m2 m3 : DE} {σ : L2.St} {H : Hp} {Q : VK} (hk : ∀ (W : WX) (σ : L2.St) (μ : List Addr) (H : Hp) (h : AHp) (a b : AV) (v w : V) (Q : VK), HRel R μ h H → Rep R μ H a v → Rep R μ H b w → Post R W σ μ H (opCmp op a b h) Q → r v w H Q)
    (hk' : ∀ (W : WX) (σ : L2.St) (μ : List Addr) (H : Hp) (h : AHp) (a b : AV) (v w : V) (Q : VK), HRel R μ h H → Rep R μ H a v → Rep R μ H b w → Post R W σ μ H (opCmp op' a b h) Q → r' v w H Q)
    (q : rdE R W (eChain op op' m1 m2 m3) σ H Q) : tChain r r' (rdE R W m1) (rdE R W m2) (rdE R W m3) σ H Q := by
  obtain ⟨μ, env, h, S, hr, p⟩ := q
  refine rdE_bind S hr p fun av h1 μ1 H1 v ev S1 hr1 rv p => ?_
  refine rdE_bind S1 hr1 p fun bv h2 μ2 H2 w ev2 S2 hr2 rw' p => ?_
  have p' := Post_blk p fun v hv => by
    cases v <;> first | rfl | exact absurd rfl (hv _)
  refine hk W σ μ2 H2 h2 av bv v w _ hr2 (rv.ev hr1.cells ev2) rw' ?_
  have pe := p'
  revert pe
  cases opCmp op av bv h2 with
  | stuck => exact fun z => z
  | exc c x h3 => exact fun z => z
  | ok a h3 =>
    intro z μ3 H3 v3 ev3 hr3 rv3
    obtain ⟨c, e3, μ4, h4, ev4, hr4, p4⟩ := z μ3 H3 v3 ev3 hr3 rv3
    refine ⟨c, e3, ?_⟩
    cases c with
    | true =>
      rw [if_pos rfl]
      refine rdE_bind (S2.ev hr2.cells ev4) hr4 p4 fun cv h5 μ5 H5 u ev5 S5 hr5 ru p => ?_
      exact hk' W σ μ5 H5 h5 bv cv w u Q hr5 (rw'.ev hr2.cells (ev4.trans ev5)) ru p
    | false =>
      rw [if_neg Bool.false_ne_true]
      exact p4.ok hr4 rfl
theorem ae_chain {op op' : CmpOp} {a b c : Expr} {m1 m2 m3 : DE} {pos : Pos} (s2 : Snd2 R X (compareOp op) (opCmp op)) (s2' : Snd2 R X (compareOp op') (opCmp op')) (ha : AE R X W a m1) (hb : AE R X W b m2) (hc : AE R X W c m3)
    (hm : lastMarks [op, op'] [b, c] = false) : AE R X W (.Compare a [op, op'] [b, c] pos) (eChain op op' m1 m2 m3) := by
  obtain ⟨r, ho, hk⟩ := s2
  obtain ⟨r', ho', hk'⟩ := s2'
  exact (pe_chain ho ho' ha hb hc hm).imp fun σ H Q q => chain_rd hk hk' q
theorem at_chain {op op' : CmpOp} {a b c : Expr} {m1 m2 m3 : DE} {pos : Pos} (s2 : Snd2 R X (compareOp op) (opCmp op)) (s2' : Snd2 R X (compareOp op') (opCmp op')) (ha : AE R X W a m1) (hb : AE R X W b m2) (hc : AE R X W c m3)
    (hm : lastMarks [op, op'] [b, c] = false) : AT R X W (.Compare a [op, op'] [b, c] pos) (tB (eChain op op' m1 m2 m3)) := by
  obtain ⟨r, ho, hk⟩ := s2
  obtain ⟨r', ho', hk'⟩ := s2'
  exact (pt_chain ho ho' ha hb hc hm).imp fun σ H Q ⟨μ, env, h, S, hr, p⟩ => chain_rd hk hk' ⟨μ, env, h, S, hr, Post_asB p⟩

theorem truth_ok {μ : List Addr} {h h1 : AHp} {H : Hp} {v : AV} {w : V} {b : Bool} (hr : HRel R μ h H) (r : Rep R μ H v w) (e : truth v h = .ok b h1) : h1 = h ∧ TruV R.K w H b := by
  unfold truth at e
  split at e
  · cases e; rw [show w = _ from r]; exact ⟨rfl, rfl⟩
  · cases e; rw [show w = _ from r]; exact ⟨rfl, rfl⟩
  · cases e; rw [show w = _ from r]; exact ⟨rfl, rfl⟩
  · rename_i s
    split at e
    · rename_i hl
      cases e
      rw [show w = _ from r]
      refine ⟨rfl, ?_, ?_⟩
      · rw [str_len, ← SL_eq]; exact hl
      · rw [str_len]
        cases s with
        | nil => rfl
        | cons a l =>
          have : ((List.length (a :: l) : Nat) : Int) ≠ 0 := by rw [List.length_cons]; omega
          simp
          omega
    · cases e
  · rename_i xs
    cases e
    obtain ⟨a, vs, e1, h2, h3⟩ := r
    subst e1
    refine ⟨rfl, .inr (.inl ⟨vs, h2, ?_⟩)⟩
    cases xs with
    | nil => rw [show vs = [] from h3]; rfl
    | cons x l => obtain ⟨u, t, rfl, _⟩ := h3; rfl
  · rename_i xs
    cases e
    obtain ⟨a, vs, e1, h2, _, h3⟩ := r
    subst e1
    refine ⟨rfl, .inl ⟨vs, .inl h2, ?_⟩⟩
    cases xs with
    | nil => rw [show vs = [] from h3]; rfl
    | cons x l => obtain ⟨u, t, rfl, _⟩ := h3; rfl
  · rename_i n
    split at e
    · rename_i xs q
      cases e
      obtain ⟨a, h2, e1⟩ := r
      subst e1
      obtain ⟨vs, z, h3, _⟩ := hr.obj n _ a q h2
      refine ⟨rfl, .inl ⟨vs, .of z, ?_⟩⟩
      cases xs with
      | nil => rw [show vs = [] from h3]; rfl
      | cons x l => obtain ⟨u, t, rfl, _⟩ := h3; rfl
    · cases e
  · cases e
theorem truth_no {v : AV} {h h1 : AHp} {c : Nat} {x : AV} (e : truth v h = .exc c x h1) : False := by
  unfold truth at e
  split at e <;> first | cases e | (split at e <;> cases e)
theorem Post.truth {σ : L2.St} {μ : List Addr} {h : AHp} {H : Hp} {Q : VK} {k : Bool → M AV} {v : AV} {w : V} (p : Post R W σ μ H (bind (Tp.truth v) k h) Q) (hr : HRel R μ h H) (r : Rep R μ H v w) : ∃ b, TruV R.K w H b ∧ Post R W σ μ H (k b h) Q := by
  cases e : Tp.truth v h with
  | ok b h1 =>
    obtain ⟨rfl, t⟩ := truth_ok hr r e
    rw [bind_ok e] at p
    exact ⟨b, t, p⟩
  | exc c x h1 => exact (truth_no e).elim
  | stuck => rw [bind_stuck e] at p; exact p.elim

theorem at_truth (hK : X.K = R.K) {e : Expr} {m : DE} (ha : AE R X W e m) (he : ∀ whole, isTrue e X.env whole = (do let v ← whole; standAt e.pos; holding [v] (truthy v))) : AT R X W e (tTruth m) := by
  refine (pt_truth ha he).imp fun σ H Q ⟨μ, env, h, S, hr, p⟩ => ?_
  refine rdE_bindT S hr p fun av h1 μ1 H1 v ev S1 hr1 rv p => ?_
  cases e : truth av h1 with
  | ok b h2 =>
    obtain ⟨rfl, t⟩ := truth_ok hr1 rv e
    rw [e] at p
    exact ⟨b, hK ▸ t, p μ1 H1 (Ev.refl _ _) hr1⟩
  | exc c x h2 => exact (truth_no e).elim
  | stuck => rw [e] at p; exact p.elim
theorem at_not {a : Expr} {t : DT} {pos : Pos} (ha : AT R X W a t) : AT R X W (.UnaryOp .Not a pos) (tNot t) :=
  (pt_not ha).imp fun σ H Q ⟨μ, env, h, S, hr, p⟩ => rdT_bindT S hr p fun b h1 μ1 H1 ev S1 hr1 p => p μ1 H1 (Ev.refl _ _) hr1

theorem aw_and : ∀ (es : List Expr) (ts : List DT), es.length = ts.length → es ≠ [] → (∀ (i : Nat) (e : Expr) (t : DT), es[i]? = some e → ts[i]? = some t → AT R X W e t) → ∀ pos, PW X (.BoolOp .And es pos) (rdT R W (tAnd ts))
  | [], _, _, n, _, _ => absurd rfl n
  | [e], [t], _, _, h, pos => (pw_and1 (h 0 e t rfl rfl)).imp fun σ H Q ⟨μ, env, h, S, hr, p⟩ => by
    refine rdT_bindT S hr p fun b h1 μ1 H1 ev S1 hr1 p => ?_
    cases b <;> exact p μ1 H1 (Ev.refl _ _) hr1
  | e :: e2 :: es, t :: t2 :: ts, hl, _, h, pos => by
    have ih := aw_and (e2 :: es) (t2 :: ts) (by simpa using hl) (by simp) (fun i a b h1 h2 => h (i + 1) a b (by simpa using h1) (by simpa using h2)) pos
    refine (pw_and (h 0 e t rfl rfl) ih).imp fun σ H Q ⟨μ, env, h, S, hr, p⟩ => ?_
    refine rdT_bindT S hr p fun b h1 μ1 H1 ev S1 hr1 p => ?_
    cases b with
    | true => rw [if_pos rfl]; exact ⟨μ1, env, h1, S1, hr1, p⟩
    | false => rw [if_neg Bool.false_ne_true]; exact p μ1 H1 (Ev.refl _ _) hr1
  | [_], [], hl, _, _, _ => by simp at hl
  | [_], _ :: _ :: _, hl, _, _, _ => by simp at hl
  | _ :: _ :: _, [], hl, _, _, _ => by simp at hl
  | _ :: _ :: _, [_], hl, _, _, _ => by simp at hl
theorem aw_or : ∀ (es : List Expr) (ts : List DT), es.length = ts.length → es ≠ [] → (∀ (i : Nat) (e : Expr) (t : DT), es[i]? = some e → ts[i]? = some t → AT R X W e t) → ∀ pos, PW X (.BoolOp .Or es pos) (rdT R W (tOr ts))
  | [], _, _, n, _, _ => absurd rfl n
  | [e], [t], _, _, h, pos => (pw_or1 (h 0 e t rfl rfl)).imp fun σ H Q ⟨μ, env, h, S, hr, p⟩ => by
    refine rdT_bindT S hr p fun b h1 μ1 H1 ev S1 hr1 p => ?_
    cases b <;> exact p μ1 H1 (Ev.refl _ _) hr1
  | e :: e2 :: es, t :: t2 :: ts, hl, _, h, pos => by
    have ih := aw_or (e2 :: es) (t2 :: ts) (by simpa using hl) (by simp) (fun i a b h1 h2 => h (i + 1) a b (by simpa using h1) (by simpa using h2)) pos
    refine (pw_or (h 0 e t rfl rfl) ih).imp fun σ H Q ⟨μ, env, h, S, hr, p⟩ => ?_
    refine rdT_bindT S hr p fun b h1 μ1 H1 ev S1 hr1 p => ?_
    cases b with
    | true => rw [if_pos rfl]; exact p μ1 H1 (Ev.refl _ _) hr1
    | false => rw [if_neg Bool.false_ne_true]; exact ⟨μ1, env, h1, S1, hr1, p⟩
  | [_], [], hl, _, _, _ => by simp at hl
  | [_], _ :: _ :: _, hl, _, _, _ => by simp at hl
  | _ :: _ :: _, [], hl, _, _, _ => by simp at hl
  | _ :: _ :: _, [_], hl, _, _, _ => by simp at hl
theorem ae_and (hK : X.K = R.K) : ∀ (es : List Expr) (ts : List DE), es.length = ts.length → es ≠ [] → (∀ (i : Nat) (e : Expr) (t : DE), es[i]? = some e → ts[i]? = some t → AE R X W e t) → ∀ pos, AE R X W (.BoolOp .And es pos) (eAnd ts)
  | [], _, _, n, _, _ => absurd rfl n
  | [e], [t], _, _, h, pos => pe_one (h 0 e t rfl rfl)
  | e :: e2 :: es, t :: t2 :: ts, hl, _, h, pos => by
    have ih := ae_and hK (e2 :: es) (t2 :: ts) (by simpa using hl) (by simp) (fun i a b h1 h2 => h (i + 1) a b (by simpa using h1) (by simpa using h2)) pos
    refine (pe_andT (h 0 e t rfl rfl) ih).imp fun σ H Q ⟨μ, env, h, S, hr, p⟩ => ?_
    refine rdE_bind S hr p fun av h1 μ1 H1 v ev S1 hr1 rv p => ?_
    obtain ⟨b, tr, p⟩ := p.truth hr1 rv
    refine ⟨b, hK ▸ tr, ?_⟩
    cases b with
    | true => rw [if_pos rfl]; exact ⟨μ1, env, h1, S1, hr1, p⟩
    | false => rw [if_neg Bool.false_ne_true]; exact p.ok hr1 rv
  | [_], [], hl, _, _, _ => by simp at hl
  | [_], _ :: _ :: _, hl, _, _, _ => by simp at hl
  | _ :: _ :: _, [], hl, _, _, _ => by simp at hl
  | _ :: _ :: _, [_], hl, _, _, _ => by simp at hl
theorem ae_or (hK : X.K = R.K) : ∀ (es : List Expr) (ts : List DE), es.length = ts.length → es ≠ [] → (∀ (i : Nat) (e : Expr) (t : DE), es[i]? = some e → ts[i]? = some t → AE R X W e t) → ∀ pos, AE R X W (.BoolOp .Or es pos) (eOr ts)
  | [], _, _, n, _, _ => absurd rfl n
  | [e], [t], _, _, h, pos => pe_one (h 0 e t rfl rfl)
  | e :: e2 :: es, t :: t2 :: ts, hl, _, h, pos => by
    have ih := ae_or hK (e2 :: es) (t2 :: ts) (by simpa using hl) (by simp) (fun i a b h1 h2 => h (i + 1) a b (by simpa using h1) (by simpa using h2)) pos
    refine (pe_orT (h 0 e t rfl rfl) ih).imp fun σ H Q ⟨μ, env, h, S, hr, p⟩ => ?_
    refine rdE_bind S hr p fun av h1 μ1 H1 v ev S1 hr1 rv p => ?_
    obtain ⟨b, tr, p⟩ := p.truth hr1 rv
    refine ⟨b, hK ▸ tr, ?_⟩
    cases b with
    | true => rw [if_pos rfl]; exact p.ok hr1 rv
    | false => rw [if_neg Bool.false_ne_true]; exact ⟨μ1, env, h1, S1, hr1, p⟩
  | [_], [], hl, _, _, _ => by simp at hl
  | [_], _ :: _ :: _, hl, _, _, _ => by simp at hl
  | _ :: _ :: _, [], hl, _, _, _ => by simp at hl
  | _ :: _ :: _, [_], hl, _, _, _ => by simp at hl
theorem ae_not (hK : X.K = R.K) {a : Expr} {m : DE} {pos : Pos} (ha : AE R X W a m) : AE R X W (.UnaryOp .Not a pos) (eNot m) := by
  refine (pe_notT ha).imp fun σ H Q ⟨μ, env, h, S, hr, p⟩ => ?_
  refine rdE_bind S hr p fun av h1 μ1 H1 v ev S1 hr1 rv p => ?_
  obtain ⟨b, tr, p⟩ := p.truth hr1 rv
  exact ⟨b, hK ▸ tr, p.ok hr1 rfl⟩
theorem ae_neg {a : Expr} {m : DE} {pos : Pos} (ha : AE R X W a m) : AE R X W (.UnaryOp .USub a pos) (eNeg m) := by
  refine (pe_un un_neg ha).imp fun σ H Q ⟨μ, env, h, S, hr, p⟩ => ?_
  refine rdE_bind S hr p fun av h1 μ1 H1 v ev S1 hr1 rv p => ?_
  cases av with
  | int i => exact ⟨i, rv, p.ok hr1 rfl⟩
  | _ => exact p.elim
theorem ae_if {c a b : Expr} {t : DT} {m1 m2 : DE} {pos : Pos} (hc : AT R X W c t) (ha : AE R X W a m1) (hb : AE R X W b m2) : AE R X W (.IfExp c a b pos) (eIf t m1 m2) := by
  refine (pe_ifExp hc ha hb).imp fun σ H Q ⟨μ, env, h, S, hr, p⟩ => ?_
  refine rdT_bind S hr p fun b h1 μ1 H1 ev S1 hr1 p => ?_
  cases b with
  | true => rw [if_pos rfl]; exact ⟨μ1, env, h1, S1, hr1, p⟩
  | false => rw [if_neg Bool.false_ne_true]; exact ⟨μ1, env, h1, S1, hr1, p⟩

theorem aa_nil : AA R X W [] aNil := pa_nil.imp fun σ H Q ⟨μ, env, h, S, hr, p⟩ => p μ H [] (Ev.refl _ _) hr rfl
theorem aa_cons {e : Expr} {es : List Expr} {m : DE} {a : DA} (he : AE R X W e m) (hr : AA R X W es a) (hs : starEach (e :: es) X.env = (false, eval e X.env) :: starEach es X.env) : AA R X W (e :: es) (aCons m a) := by
  refine (pa_cons he hr hs).imp fun σ H Q ⟨μ, env, h, S, hr, p⟩ => ?_
  refine rdE_bindA S hr p fun av h1 μ1 H1 v ev S1 hr1 rv p => ?_
  refine rdA_bindA S1 hr1 p fun avs h2 μ2 H2 vs ev2 S2 hr2 rvs p => ?_
  exact p μ2 H2 _ (Ev.refl _ _) hr2 ⟨v, vs, rfl, rv.ev hr1.cells ev2, rvs⟩
theorem PostA.seq {σ : L2.St} {μ : List Addr} {h : AHp} {H : Hp} {Q : List V → Hp → Prop} {k : List AV → M (List AV)} {v : AV} {w : V} (p : PostA R W σ μ H (bind (seqOf v) k h) Q) (hr : HRel R μ h H) (r : Rep R μ H v w) :
    ∃ xs a vs, w = .ref a ∧ RepL R μ H xs vs ∧ (SqT R.K H a vs ∨ SqL R.K H a vs) ∧ PostA R W σ μ H (k xs h) Q := by
  cases e : seqOf v h with
  | ok xs h1 =>
    obtain ⟨rfl, a, vs, e1, h2, h3⟩ := seqOf_ok hr r e
    rw [bind_ok e] at p
    refine ⟨xs, a, vs, e1, h2, ?_, p⟩
    rcases h3 with ⟨h3, _⟩ | ⟨h3, _⟩
    · exact .inr (.inl h3)
    · exact .inl h3
  | exc c x h1 => exact (seqOf_no e).elim
  | stuck =>
    rw [bind_stuck e] at p
    exact p.elim
theorem aa_star (hK : X.K = R.K) {e : Expr} {es : List Expr} {m : DE} {a : DA} {p0 : Pos} (he : AE R X W e m) (hr : AA R X W es a) : AA R X W (.Starred e p0 :: es) (aStar m a) := by
  refine (StX.pa_star he hr).imp fun σ H Q ⟨μ, env, h, S, hr, p⟩ => ?_
  refine rdE_bindA S hr p fun av h1 μ1 H1 v ev S1 hr1 rv p => ?_
  obtain ⟨xs, b, vs, e1, h2, h3, p⟩ := p.seq hr1 rv
  refine ⟨b, vs, e1, hK ▸ h3, ?_⟩
  refine rdA_bindA S1 hr1 p fun avs h2' μ2 H2 ws ev2 S2 hr2 rvs p => ?_
  exact p μ2 H2 _ (Ev.refl _ _) hr2 ((h2.ev hr1.cells ev2).append rvs)
theorem ae_tup {es : List Expr} {a : DA} {k : Nat} {pos : Pos} (ha : AA R X W es a) : AE R X W (.Tuple es k pos) (eTup a) := by
  refine (pe_tup ha).imp fun σ H Q ⟨μ, env, h, S, hr, p⟩ => ?_
  refine rdA_bind S hr p fun avs h1 μ1 H1 vs ev S1 hr1 rvs p => ?_
  obtain ⟨hl, p⟩ := p.iteP
  exact ⟨by rw [rvs.length, ← SL_eq]; exact hl, p.newTup hr1 rvs⟩
theorem ae_lst {es : List Expr} {a : DA} {pos : Pos} (ha : AA R X W es a) : AE R X W (.List es pos) (eLst a) := by
  refine (pe_lst ha).imp fun σ H Q ⟨μ, env, h, S, hr, p⟩ => ?_
  refine rdA_bind S hr p fun avs h1 μ1 H1 vs ev S1 hr1 rvs p => ?_
  obtain ⟨hl, p⟩ := p.iteP
  exact ⟨by rw [rvs.length, ← SL_eq]; exact hl, p.newLst hr1 rvs⟩

theorem HRel.cell {μ : List Addr} {h : AHp} {H : Hp} {q : Addr} {xs : List AV} {vs : List V} (hr : HRel R μ h H) (hq : H q = none) (r : RepL R μ H xs vs) (pu : AV.pureAll xs = true) :
    HRel R (μ ++ [q]) (h ++ [.lst xs]) (upd H q (.lst vs)) := by
  have e : Ev μ H (μ ++ [q]) (upd H q (.lst vs)) := Ev.cell hq
  have c := hr.cells
  have nq := hr.notin hq
  refine ⟨by rw [List.length_append, List.length_append, hr.len]; rfl, ?_, fun i ob a h1 h2 => ?_, hr.tabs.ext fun b u z => by rw [upd_ne (ne_of_none z hq)]; exact z, fun b hb => let ⟨n, xs, z⟩ := hr.hid b hb; ⟨fun m => (List.mem_append.mp m).elim n fun m => ne_of_none z hq (by simpa using m), xs, by rw [upd_ne (ne_of_none z hq)]; exact z⟩⟩
  · rw [List.nodup_append]
    exact ⟨hr.nd, by simp, fun a ha b hb z => by simp at hb; rw [hb] at z; exact nq (z ▸ ha)⟩
  · by_cases hi : i < h.length
    · rw [List.getElem?_append_left hi] at h1
      rw [List.getElem?_append_left (by rw [hr.len]; exact hi)] at h2
      have q := hr.obj i ob a h1 h2
      cases ob with
      | lst xs =>
        obtain ⟨vs, z, r, pu⟩ := q
        exact ⟨vs, by rw [upd_ne (ne_of_none z hq)]; exact z, r.ev c e, pu⟩
      | ins k fs =>
        obtain ⟨dx, fs', z, n, r, pu⟩ := q
        exact ⟨dx, fs', by rw [upd_ne (ne_of_none z hq)]; exact z, n, r.ev c e, pu⟩
      | dct kvs => exact q.elim
    · rw [List.getElem?_append_right (by omega)] at h1
      rw [List.getElem?_append_right (by rw [hr.len]; omega)] at h2
      have i0 : i - h.length = 0 := by
        cases hz : i - h.length with
        | zero => rfl
        | succ k => rw [hz] at h1; simp at h1
      rw [i0] at h1
      rw [hr.len, i0] at h2
      simp at h1 h2
      subst h1 h2
      exact ⟨vs, upd_same, r.ev c e, pu⟩
theorem ae_new {es : List Expr} {a : DA} {pos : Pos} (ha : AA R X W es a) : AE R X W (.List es pos) (eNew a) := by
  refine (pe_lst ha).imp fun σ H Q ⟨μ, env, h, S, hr, p⟩ => ?_
  refine rdA_bind S hr p fun avs h1 μ1 H1 vs ev S1 hr1 rvs p => ?_
  by_cases c : avs.length ≤ SL ∧ AV.pureAll avs = true
  · have p' : Post R W σ μ1 H1 (.ok (.ref h1.length) (h1 ++ [.lst avs])) Q := by
      have e : (fun h => if avs.length ≤ SL ∧ AV.pureAll avs = true then Res.ok (AV.ref h.length) (h ++ [.lst avs]) else .stuck) h1 = Res.ok (AV.ref h1.length) (h1 ++ [.lst avs]) := if_pos c
      rw [← e]; exact p
    refine ⟨by rw [rvs.length, ← SL_eq]; exact c.1, fun q hq => p' (μ1 ++ [q]) _ _ (Ev.cell hq) (hr1.cell hq rvs c.2) ⟨q, ?_, rfl⟩⟩
    rw [← hr1.len, List.getElem?_append_right (Nat.le_refl _), Nat.sub_self]
    rfl
  · have e : (fun h => if avs.length ≤ SL ∧ AV.pureAll avs = true then Res.ok (AV.ref h.length) (h ++ [.lst avs]) else .stuck) h1 = Res.stuck := if_neg c
    have p' : Post R W σ μ1 H1 .stuck Q := by rw [← e]; exact p
    exact p'.elim
end
end Tp
end
section
set_option Elab.async false
set_option linter.all false
set_option maxRecDepth 100000
set_option maxHeartbeats 1000000

namespace Tp
open PySem PySem.Spec PyProof.Rows L2

section
variable {R : Rx} {X : Cx} {W : WX}
theorem Post.optT {σ : L2.St} {μ : List Addr} {H : Hp} {h : AHp} {Q : VK} {o : Option AV} (p : Post R W σ μ H (ofOpt o h) Q) : ∃ a, o = some a ∧ Post R W σ μ H (ret a h) Q := by
  cases o with
  | none => exact p.elim
  | some a => exact ⟨a, rfl, p⟩

def noSlice : Expr → Bool
  | .Slice _ _ _ _ => false
  | _ => true
theorem plainIx_of {b : Expr} (h : noSlice b = true) : PlainIx b := by
  intro o i
  cases b <;> first | rfl | (simp [noSlice] at h)
theorem atI_eq {α : Type} (xs : List α) (i : Int) : Tp.atI xs i = L2.atI xs i := rfl
theorem atI_rep {μ : List Addr} {H : Hp} {xs : List AV} {vs : List V} {i : Int} {x : AV} (h : RepL R μ H xs vs) (e : Tp.atI xs i = some x) : ∃ v, L2.atI vs i = some v ∧ Rep R μ H x v := by
  unfold Tp.atI at e
  have hl : vs.length = xs.length := h.length
  cases q : Tp.ixN xs.length i with
  | none => rw [q] at e; cases e
  | some j =>
    rw [q] at e
    obtain ⟨v, h1, h2⟩ := h.get (i := j) (x := x) e
    refine ⟨v, ?_, h2⟩
    unfold L2.atI
    rw [hl]
    have q' : L2.ixN xs.length i = some j := q
    rw [q']
    exact h1
theorem ae_ix (hK : X.K = R.K) {a b : Expr} {m1 m2 : DE} {pos : Pos} (ha : AE R X W a m1) (hb : AE R X W b m2) (hs : noSlice b = true) : AE R X W (.Subscript a b pos) (eIx m1 m2) := by
  refine (pe_ix ix_seq ha hb (plainIx_of hs)).imp fun σ H Q ⟨μ, env, h, S, hr, p⟩ => ?_
  refine rdE_bind S hr p fun av h1 μ1 H1 v ev S1 hr1 rv p => ?_
  refine rdE_bind S1 hr1 p fun bv h2 μ2 H2 w ev2 S2 hr2 rw' p => ?_
  have rv := rv.ev hr1.cells ev2
  cases bv with
  | int i =>
    by_cases q : ∃ s, av = .str s
    · obtain ⟨s, rfl⟩ := q
      obtain ⟨hl, p⟩ := (show Post R W σ μ2 H2 ((if s.length ≤ SL then bind (ofOpt (Tp.atI s i)) fun c => ret (.str [c]) else fail) h2) Q from p).iteP
      obtain ⟨c, e, p⟩ := p.opt
      exact .inr (.inr ⟨⟨s.toArray⟩, i, c, rv, rw', by rw [str_len, ← SL_eq]; exact hl, by rw [← atI_eq]; simpa using e, p.ok hr2 rfl⟩)
    · have e0 : index av (.int i) = bind (seqOf av) fun xs => ofOpt (Tp.atI xs i) := by
        cases av <;> first | rfl | exact absurd ⟨_, rfl⟩ q
      rw [e0] at p
      obtain ⟨xs, a1, vs, e1, r1, hx, p⟩ := p.seq hr2 rv
      obtain ⟨x, e, p⟩ := p.optT
      obtain ⟨u, e2, r2⟩ := atI_rep r1 e
      rcases hx with ⟨hx, _⟩ | ⟨hx, _⟩
      · exact .inl ⟨a1, vs, i, u, e1, rw', .inl hx, e2, p.ok hr2 r2⟩
      · exact .inr (.inl ⟨a1, vs, i, u, e1, rw', hK ▸ hx, e2, p.ok hr2 r2⟩)
  | _ => exact p.elim

def PostP (R : Rx) (W : WX) (σ : L2.St) (μ : List Addr) (H : Hp) (r : Res (Option Int)) (Q : Option Int → Hp → Prop) : Prop := match r with
  | .ok o h' => ∀ μ' H', Ev μ H μ' H' → HRel R μ' h' H' → Q o H'
  | .exc c x h' => PostX R W σ μ H c x h'
  | .stuck => False
def rdP (R : Rx) (W : WX) (m : DP) : TO := fun σ H Q => ∃ μ env h, SRel R μ env H σ ∧ HRel R μ h H ∧ PostP R W σ μ H (m env h) Q
theorem _root_.L2.PO.imp {X : Cx} {e : Option Expr} {t t' : TO} (h : PO X e t) (i : ∀ σ H Q, t' σ H Q → t σ H Q) : PO X e t' := ⟨fun pins s σ H Q I q => h.run pins s σ H Q I (i σ H Q q)⟩
abbrev AP' (R : Rx) (X : Cx) (W : WX) (e : Option Expr) (m : DP) : Prop := PO X e (rdP R W m)
theorem ap_no : AP' R X W none pNo := po_none.imp fun σ H Q ⟨μ, env, h, S, hr, p⟩ => p μ H (Ev.refl _ _) hr
theorem ap_at {e : Expr} {m : DE} (he : AE R X W e m) : AP' R X W (some e) (pAt m) := by
  refine (po_some he).imp fun σ H Q ⟨μ, env, h, S, hr, p⟩ => ?_
  have p : PostP R W σ μ H (bind (m env) (fun v => match v with
    | .int i => ret (some i)
    | _ => fail) h) Q := p
  refine rdE_first S hr (fun av h1 e μ' H' v ev s' r' rv => ?_) (fun c x h1 e => ?_) fun e => ?_
  · rw [bind_ok e] at p
    cases av with
    | int i => exact ⟨i, rv, p μ' H' ev r'⟩
    | _ => exact p.elim
  · rw [bind_exc e] at p
    exact p
  · rw [bind_stuck e] at p
    exact p
theorem rdP_bind {σ : L2.St} {m : DP} {k : Option Int → M AV} {μ : List Addr} {env : AEnv} {h : AHp} {H : Hp} {Q : VK} {Q' : Option Int → Hp → Prop} (S : SRel R μ env H σ) (hr : HRel R μ h H) (p : Post R W σ μ H (bind (m env) k h) Q)
    (hk : ∀ o h1 μ' H', Ev μ H μ' H' → SRel R μ' env H' σ → HRel R μ' h1 H' → Post R W σ μ' H' (k o h1) Q → Q' o H') : rdP R W m σ H Q' := by
  refine ⟨μ, env, h, S, hr, ?_⟩
  cases e : m env h with
  | ok o h1 =>
    rw [bind_ok e] at p
    exact fun μ' H' ev r' => hk o h1 μ' H' ev (S.ev hr.cells ev) r' (p.ev ev)
  | exc c x h1 =>
    rw [bind_exc e] at p
    exact p
  | stuck =>
    rw [bind_stuck e] at p
    exact p
theorem sIx_eq (n d : Nat) (o : Option Int) : Tp.sIx n d o = HT.sIx n d o := rfl
theorem cut_rep {μ : List Addr} {H : Hp} {xs : List AV} {vs : List V} (h : RepL R μ H xs vs) (lo hi : Option Int) : RepL R μ H (cut xs lo hi) (cutV vs lo hi) := by
  unfold cut cutV
  rw [h.length]
  exact (h.drop _).take _
theorem cut_str (s : List Nat) (lo hi : Option Int) : cutS ⟨s.toArray⟩ lo hi = ⟨(cut s lo hi).toArray⟩ := by
  show (⟨((((⟨s.toArray⟩ : Str).cps.toList.drop (HT.sIx (⟨s.toArray⟩ : Str).length 0 lo)).take (HT.sIx (⟨s.toArray⟩ : Str).length (⟨s.toArray⟩ : Str).length hi - HT.sIx (⟨s.toArray⟩ : Str).length 0 lo)).toArray)⟩ : Str) = _
  rw [str_len]
  rfl
theorem ae_sl (hK : X.K = R.K) {a : Expr} {lo hi : Option Expr} {m1 : DE} {pl ph : DP} {p2 pos : Pos} (ha : AE R X W a m1) (hl : AP' R X W lo pl) (hh : AP' R X W hi ph) : AE R X W (.Subscript a (.Slice lo hi none p2) pos) (eSl m1 pl ph) := by
  refine (pe_slice (sl_tupA.or (sl_list.or sl_str)) ha hl hh).imp fun σ H Q ⟨μ, env, h, S, hr, p⟩ => ?_
  refine rdE_bind S hr p fun av h1 μ1 H1 v ev S1 hr1 rv p => ?_
  refine rdP_bind S1 hr1 p fun l h2 μ2 H2 ev2 S2 hr2 p => ?_
  refine rdP_bind S2 hr2 p fun u h3 μ3 H3 ev3 S3 hr3 p => ?_
  have rv := rv.ev hr1.cells (ev2.trans ev3)
  by_cases q : ∃ xs, av = .tup xs
  · obtain ⟨xs, rfl⟩ := q
    have p : Post R W σ μ3 H3 (ret (.tup (cut xs l u)) h3) Q := p
    obtain ⟨b, vs, e1, h4, h5⟩ := rv
    refine .inl ⟨b, vs, e1, hK ▸ h4, fun c => ?_, fun _ => p.newTup hr3 (cut_rep h5 l u)⟩
    have e : cut xs l u = xs := by
      unfold cut
      rw [← h5.length]
      have c1 : Tp.sIx vs.length 0 l = 0 := c.1
      have c2 : Tp.sIx vs.length vs.length u = vs.length := c.2
      rw [c1, c2, h5.length]
      simp
    rw [e] at p
    exact p.ok hr3 ⟨b, vs, rfl, h4, h5⟩
  · by_cases q2 : ∃ s, av = .str s
    · obtain ⟨s, rfl⟩ := q2
      obtain ⟨hl, p⟩ := (show Post R W σ μ3 H3 ((if s.length ≤ SL then ret (.str (cut s l u)) else fail) h3) Q from p).iteP
      refine .inr (.inr ⟨⟨s.toArray⟩, rv, by rw [str_len, ← SL_eq]; exact hl, ?_⟩)
      rw [cut_str]
      exact p.ok hr3 rfl
    · have e0 : slice av l u = bind (lstOf av) fun xs => ret (.lst (cut xs l u)) := by
        cases av <;> first | rfl | exact absurd ⟨_, rfl⟩ q | exact absurd ⟨_, rfl⟩ q2
      rw [e0] at p
      obtain ⟨xs, b, vs, e1, h4, h5, p⟩ := p.lst hr3 rv
      exact .inr (.inl ⟨b, vs, e1, .inl h4, p.newLst hr3 (cut_rep h5 l u)⟩)

def SndC (R : Rx) (X : Cx) (f : Value) (op : List AV → M AV) : Prop :=
  ∃ r : List V → Hp → VK → Prop, CallR X f r ∧ ∀ (W : WX) (σ : L2.St) (μ : List Addr) (H : Hp) (h : AHp) (as : List AV) (vs : List V) (Q : VK), HRel R μ h H → RepL R μ H as vs → Post R W σ μ H (op as h) Q → r vs H Q
theorem ae_callB {op : List AV → M AV} {id : String} {x : Str} {es : List Expr} {a : DA} {p0 pos : Pos} (s : SndC R X (.builtin id) op) (hg : Gl X x) (hm : X.mg x = none) (hv : bootBuiltins x = some (.builtin id)) (he : es ≠ []) (ha : AA R X W es a)
    (hn : x ≠ "__name__") (hd : (x == ("__debug__" : Str)) = false) (hs : ∀ e r, es = e :: r → starEach (e :: r) X.env = (false, eval e X.env) :: starEach r X.env) (hp : ∀ e r, es = e :: r → (backTo pos (starEach r X.env)).any (·.1) = false) :
    AE R X W (.Call (.Name x p0) es [] pos) (fun env => bind (a env) op) := by
  obtain ⟨r, hc, hk⟩ := s
  cases es with
  | nil => exact absurd rfl he
  | cons e rest =>
    refine (pe_callB hc hg hm hv ha hn hd (hs e rest rfl) (hp e rest rfl)).imp fun σ H Q ⟨μ, env, h, S, hr, p⟩ => ?_
    refine rdA_bind S hr p fun avs h1 μ1 H1 vs ev S1 hr1 rvs p => ?_
    exact hk W σ μ1 H1 h1 avs vs Q hr1 rvs p
theorem ae_callTy {op : List AV → M AV} {T : String} {x : Str} {es : List Expr} {a : DA} {p0 pos : Pos} (s : SndC R X (.type T) op) (hg : Gl X x) (hm : X.mg x = none) (hv : bootBuiltins x = some (.type T)) (he : es ≠ []) (ha : AA R X W es a)
    (hn : x ≠ "__name__") (hd : (x == ("__debug__" : Str)) = false) (hs : ∀ e r, es = e :: r → starEach (e :: r) X.env = (false, eval e X.env) :: starEach r X.env) (hp : ∀ e r, es = e :: r → (backTo pos (starEach r X.env)).any (·.1) = false) :
    AE R X W (.Call (.Name x p0) es [] pos) (fun env => bind (a env) op) := by
  obtain ⟨r, hc, hk⟩ := s
  cases es with
  | nil => exact absurd rfl he
  | cons e rest =>
    refine (pe_callTy hc hg hm hv ha hn hd (hs e rest rfl) (hp e rest rfl)).imp fun σ H Q ⟨μ, env, h, S, hr, p⟩ => ?_
    refine rdA_bind S hr p fun avs h1 μ1 H1 vs ev S1 hr1 rvs p => ?_
    exact hk W σ μ1 H1 h1 avs vs Q hr1 rvs p
theorem RepL.one {μ : List Addr} {H : Hp} {x : AV} {vs : List V} (h : RepL R μ H [x] vs) : ∃ v, vs = [v] ∧ Rep R μ H x v := by
  obtain ⟨v, r, rfl, h1, h2⟩ := h
  rw [show r = [] from h2]
  exact ⟨v, rfl, h1⟩
theorem RepL.two {μ : List Addr} {H : Hp} {x y : AV} {vs : List V} (h : RepL R μ H [x, y] vs) : ∃ v w, vs = [v, w] ∧ Rep R μ H x v ∧ Rep R μ H y w := by
  obtain ⟨v, r, rfl, h1, h2⟩ := h
  obtain ⟨w, rfl, h3⟩ := RepL.one h2
  exact ⟨v, w, rfl, h1, h3⟩
theorem ints_rep {μ : List Addr} {H : Hp} : ∀ {xs : List AV} {vs : List V} {ns : List Int}, intsOf xs = some ns → RepL R μ H xs vs → vs = ns.map V.int
  | [], _, _, e, h => by
    cases e
    exact h
  | .int i :: r, _, ns, e, h => by
    obtain ⟨v, t, rfl, h1, h2⟩ := h
    cases q : intsOf r with
    | none => simp [intsOf, q] at e
    | some ms =>
      simp [intsOf, q] at e
      subst e
      rw [show v = _ from h1, ints_rep q h2]
      rfl
  | .non :: _, _, _, e, _ => by simp [intsOf] at e
  | .bl _ :: _, _, _, e, _ => by simp [intsOf] at e
  | .str _ :: _, _, _, e, _ => by simp [intsOf] at e
  | .tup _ :: _, _, _, e, _ => by simp [intsOf] at e
  | .lst _ :: _, _, _, e, _ => by simp [intsOf] at e
  | .ref _ :: _, _, _, e, _ => by simp [intsOf] at e
  | .fn _ :: _, _, _, e, _ => by simp [intsOf] at e
  | .clo _ _ :: _, _, _, e, _ => by simp [intsOf] at e
  | .cls _ :: _, _, _, e, _ => by simp [intsOf] at e
  | .xcls _ :: _, _, _, e, _ => by simp [intsOf] at e
  | .ty _ :: _, _, _, e, _ => by simp [intsOf] at e
  | .exc _ _ :: _, _, _, e, _ => by simp [intsOf] at e
  | .obj _ _ :: _, _, _, e, _ => by simp [intsOf] at e
  | .dct _ :: _, _, _, e, _ => by simp [intsOf] at e
theorem bools_rep {μ : List Addr} {H : Hp} : ∀ {xs : List AV} {vs : List V} {ns : List Bool}, boolsOf xs = some ns → RepL R μ H xs vs → vs = ns.map V.bl
  | [], _, _, e, h => by
    cases e
    exact h
  | .bl i :: r, _, ns, e, h => by
    obtain ⟨v, t, rfl, h1, h2⟩ := h
    cases q : boolsOf r with
    | none => simp [boolsOf, q] at e
    | some ms =>
      simp [boolsOf, q] at e
      subst e
      rw [show v = _ from h1, bools_rep q h2]
      rfl
  | .non :: _, _, _, e, _ => by simp [boolsOf] at e
  | .int _ :: _, _, _, e, _ => by simp [boolsOf] at e
  | .str _ :: _, _, _, e, _ => by simp [boolsOf] at e
  | .tup _ :: _, _, _, e, _ => by simp [boolsOf] at e
  | .lst _ :: _, _, _, e, _ => by simp [boolsOf] at e
  | .ref _ :: _, _, _, e, _ => by simp [boolsOf] at e
  | .fn _ :: _, _, _, e, _ => by simp [boolsOf] at e
  | .clo _ _ :: _, _, _, e, _ => by simp [boolsOf] at e
  | .cls _ :: _, _, _, e, _ => by simp [boolsOf] at e
  | .xcls _ :: _, _, _, e, _ => by simp [boolsOf] at e
  | .ty _ :: _, _, _, e, _ => by simp [boolsOf] at e
  | .exc _ _ :: _, _, _, e, _ => by simp [boolsOf] at e
  | .obj _ _ :: _, _, _, e, _ => by simp [boolsOf] at e
  | .dct _ :: _, _, _, e, _ => by simp [boolsOf] at e

def rSumT (K : PySem.W.Frag) : List V → Hp → VK → Prop := fun vs H Q => ∃ (a : Addr) (ns : List Int), vs = [V.ref a] ∧ SqT K H a (ns.map V.int) ∧ Q (.int ns.sum) H
theorem cr_sumT (hc : X.calm = true) : CallR X (.builtin "sum") (rSumT X.K) := by
  intro pins s σ H vs us Q I r h
  obtain ⟨a, ns, rfl, hs, q⟩ := h
  obtain ⟨its, rv, ht, _⟩ := I.tuple hs
  rw [Vals.ref1 r]
  obtain ⟨xs, hx⟩ := rv.ints.allInts.items
  have hn : numsOf (intItems xs).toList = ns := by rw [← hx]; exact rv.ints.numsOf
  rw [nums_intItems] at hn
  have ht' : s.heap.IsTuple a (intItems xs) := by
    obtain ⟨o, e1, e2, n, e3⟩ := ht
    rw [← hx]
    exact ⟨o, e1, e2, n, e3⟩
  refine PySem.W.ktm_sumG (I.ok.hd hc) ht' fun h' tk t' hk => ?_
  refine ⟨.int ns.sum, H, I.kept hk, ⟨t', ?_⟩, q⟩
  rw [preSum_eq, List.take_of_length_le (by simp), hn]
theorem sndc_len (hK : X.K = R.K) : SndC R X (.builtin "len") bLen := by
  refine ⟨_, call_len_seq.or call_len_str, fun W σ μ H h as vs Q hr ra p => ?_⟩
  match as, ra, p with
  | [x], ra, p =>
    obtain ⟨v, rfl, rx⟩ := RepL.one ra
    by_cases q : ∃ s, x = .str s
    · obtain ⟨s, rfl⟩ := q
      obtain ⟨hl, p⟩ := (show Post R W σ μ H ((if s.length ≤ SL then ret (.int s.length) else fail) h) Q from p).iteP
      refine .inr ⟨⟨s.toArray⟩, by rw [show v = _ from rx], by rw [str_len, ← SL_eq]; exact hl, ?_⟩
      rw [str_len]
      exact p.ok hr rfl
    · have e0 : bLen [x] = bind (seqOf x) fun xs => ret (.int xs.length) := by
        cases x <;> first | rfl | exact absurd ⟨_, rfl⟩ q
      rw [e0] at p
      obtain ⟨xs, b, ws, e1, h2, h3, p⟩ := p.seq hr rx
      refine .inl ⟨b, ws, by rw [e1], ?_, ?_⟩
      · rcases h3 with ⟨h3, _⟩ | ⟨h3, _⟩
        · exact .inl (.inl h3)
        · exact .inr (hK ▸ h3)
      · rw [h2.length]
        exact p.ok hr rfl
  | [], ra, p => exact p.elim
  | _ :: _ :: _, ra, p => exact p.elim
theorem opt_int (xs : List AV) : (∃ i, xs = [.int i]) ∨ (∃ b, xs = [.bl b]) ∨ bInt xs = fail := by
  unfold bInt
  split
  · exact .inl ⟨_, rfl⟩
  · exact .inr (.inl ⟨_, rfl⟩)
  · exact .inr (.inr rfl)
theorem sndc_int : SndC R X (.type "int") bInt := by
  refine ⟨_, call_int1, fun W σ μ H h as vs Q hr ra p => ?_⟩
  rcases opt_int as with ⟨i, rfl⟩ | ⟨b, rfl⟩ | e
  · obtain ⟨v, rfl, rx⟩ := RepL.one ra
    have p : Post R W σ μ H (ret (.int i) h) Q := p
    exact .inl ⟨i, by rw [show v = _ from rx], p.ok hr rfl⟩
  · obtain ⟨v, rfl, rx⟩ := RepL.one ra
    have p : Post R W σ μ H (ret (.int (if b then 1 else 0)) h) Q := p
    exact .inr ⟨b, by rw [show v = _ from rx], p.ok hr rfl⟩
  · rw [e] at p
    exact p.elim
theorem one_int {f : List AV → M AV} {g : Int → M AV} (hf : ∀ xs, (∃ i, xs = [.int i]) ∨ f xs = fail) (hg : ∀ i, f [.int i] = g i) {W : WX} {σ : L2.St} {μ : List Addr} {H : Hp} {h : AHp} {as : List AV} {vs : List V} {Q : VK} (ra : RepL R μ H as vs) (p : Post R W σ μ H (f as h) Q) :
    ∃ i, vs = [.int i] ∧ Post R W σ μ H (g i h) Q := by
  rcases hf as with ⟨i, rfl⟩ | e
  · obtain ⟨v, rfl, rx⟩ := RepL.one ra
    rw [hg] at p
    exact ⟨i, by rw [show v = _ from rx], p⟩
  · rw [e] at p
    exact p.elim
theorem two_int {f : List AV → M AV} {g : Int → Int → M AV} (hf : ∀ xs, (∃ i j, xs = [.int i, .int j]) ∨ f xs = fail) (hg : ∀ i j, f [.int i, .int j] = g i j) {W : WX} {σ : L2.St} {μ : List Addr} {H : Hp} {h : AHp} {as : List AV} {vs : List V} {Q : VK} (ra : RepL R μ H as vs) (p : Post R W σ μ H (f as h) Q) :
    ∃ i j, vs = [.int i, .int j] ∧ Post R W σ μ H (g i j h) Q := by
  rcases hf as with ⟨i, j, rfl⟩ | e
  · obtain ⟨v, w, rfl, rx, ry⟩ := RepL.two ra
    rw [hg] at p
    exact ⟨i, j, by rw [show v = _ from rx, show w = _ from ry], p⟩
  · rw [e] at p
    exact p.elim
theorem sndc_abs : SndC R X (.builtin "abs") bAbs := by
  refine ⟨_, call_abs, fun W σ μ H h as vs Q hr ra p => ?_⟩
  obtain ⟨i, e, p⟩ := one_int (f := bAbs) (g := fun i => ret (.int (if i < 0 then -i else i))) (fun xs => by unfold bAbs; split <;> first | exact .inl ⟨_, rfl⟩ | exact .inr rfl) (fun i => rfl) ra p
  exact ⟨i, e, p.ok hr rfl⟩
theorem sndc_max (hc : X.calm = true) : SndC R X (.builtin "max") bMax := by
  refine ⟨_, call_max2 hc, fun W σ μ H h as vs Q hr ra p => ?_⟩
  obtain ⟨i, j, e, p⟩ := two_int (f := bMax) (g := fun i j => ret (.int (if j > i then j else i))) (fun xs => by unfold bMax; split <;> first | exact .inl ⟨_, _, rfl⟩ | exact .inr rfl) (fun i j => rfl) ra p
  exact ⟨i, j, e, p.ok hr rfl⟩
theorem sndc_min (hc : X.calm = true) : SndC R X (.builtin "min") bMin := by
  refine ⟨_, call_min2 hc, fun W σ μ H h as vs Q hr ra p => ?_⟩
  obtain ⟨i, j, e, p⟩ := two_int (f := bMin) (g := fun i j => ret (.int (if j < i then j else i))) (fun xs => by unfold bMin; split <;> first | exact .inl ⟨_, _, rfl⟩ | exact .inr rfl) (fun i j => rfl) ra p
  exact ⟨i, j, e, p.ok hr rfl⟩
theorem sndc_divmod : SndC R X (.builtin "divmod") bDivmod := by
  refine ⟨_, call_divmod, fun W σ μ H h as vs Q hr ra p => ?_⟩
  obtain ⟨i, j, e, p⟩ := two_int (f := bDivmod) (g := fun i j => if 0 < j ∧ j < 1073741824 then ret (.tup [.int (i / j), .int (i % j)]) else fail) (fun xs => by unfold bDivmod; split <;> first | exact .inl ⟨_, _, rfl⟩ | exact .inr rfl) (fun i j => rfl) ra p
  obtain ⟨c, p⟩ := p.iteP
  exact ⟨i, j, e, c, p.newTup hr ⟨_, _, rfl, rfl, _, _, rfl, rfl, rfl⟩⟩
theorem one_any {f : List AV → M AV} (hf : ∀ xs, (∃ x, xs = [x]) ∨ f xs = fail) {W : WX} {σ : L2.St} {μ : List Addr} {H : Hp} {h : AHp} {as : List AV} {vs : List V} {Q : VK} (ra : RepL R μ H as vs) (p : Post R W σ μ H (f as h) Q) :
    ∃ x v, as = [x] ∧ vs = [v] ∧ Rep R μ H x v ∧ Post R W σ μ H (f [x] h) Q := by
  rcases hf as with ⟨x, rfl⟩ | e
  · obtain ⟨v, rfl, rx⟩ := RepL.one ra
    exact ⟨x, v, rfl, rfl, rx, p⟩
  · rw [e] at p
    exact p.elim
theorem one_list (f : List AV → M AV) (hf : ∀ xs, (∀ x, xs ≠ [x]) → f xs = fail) (xs : List AV) : (∃ x, xs = [x]) ∨ f xs = fail := by
  match xs with
  | [x] => exact .inl ⟨x, rfl⟩
  | [] => exact .inr (hf _ fun x z => by cases z)
  | _ :: _ :: _ => exact .inr (hf _ fun x z => by cases z)
theorem sndc_sum (hK : X.K = R.K) (hc : X.calm = true) : SndC R X (.builtin "sum") bSum := by
  refine ⟨_, CallR.or (cr_sum hc) (cr_sumT hc), fun W σ μ H h as vs Q hr ra p => ?_⟩
  obtain ⟨x, v, rfl, rfl, rx, p⟩ := one_any (f := bSum) (one_list bSum fun xs hx => by unfold bSum; split <;> first | exact absurd rfl (hx _) | rfl) ra p
  obtain ⟨xs, b, ws, e1, h2, h3, p⟩ := (show Post R W σ μ H (bind (seqOf x) (fun ys => bind (ofOpt (intsOf ys)) fun ns => ret (.int ns.sum)) h) Q from p).seq hr rx
  obtain ⟨ns, e, p⟩ := p.opt
  have ew := ints_rep e h2
  subst ew
  rcases h3 with ⟨h3, _⟩ | ⟨h3, _⟩
  · exact .inl ⟨b, ns, by rw [e1], .inl h3, p.ok hr rfl⟩
  · exact .inr ⟨b, ns, by rw [e1], hK ▸ h3, p.ok hr rfl⟩
theorem sndc_all (hc : X.calm = true) : SndC R X (.builtin "all") bAll := by
  refine ⟨_, cr_all hc, fun W σ μ H h as vs Q hr ra p => ?_⟩
  obtain ⟨x, v, rfl, rfl, rx, p⟩ := one_any (f := bAll) (one_list bAll fun xs hx => by unfold bAll; split <;> first | exact absurd rfl (hx _) | rfl) ra p
  obtain ⟨xs, b, ws, e1, h3, h2, p⟩ := (show Post R W σ μ H (bind (lstOf x) (fun ys => bind (ofOpt (boolsOf ys)) fun bs => ret (.bl (bs.all id))) h) Q from p).lst hr rx
  obtain ⟨ns, e, p⟩ := p.opt
  have ew := bools_rep e h2
  subst ew
  exact ⟨b, ns, by rw [e1], .inl h3, p.ok hr rfl⟩
theorem sndc_any (hc : X.calm = true) : SndC R X (.builtin "any") bAny := by
  refine ⟨_, cr_any hc, fun W σ μ H h as vs Q hr ra p => ?_⟩
  obtain ⟨x, v, rfl, rfl, rx, p⟩ := one_any (f := bAny) (one_list bAny fun xs hx => by unfold bAny; split <;> first | exact absurd rfl (hx _) | rfl) ra p
  obtain ⟨xs, b, ws, e1, h3, h2, p⟩ := (show Post R W σ μ H (bind (lstOf x) (fun ys => bind (ofOpt (boolsOf ys)) fun bs => ret (.bl (bs.any id))) h) Q from p).lst hr rx
  obtain ⟨ns, e, p⟩ := p.opt
  have ew := bools_rep e h2
  subst ew
  exact ⟨b, ns, by rw [e1], .inl h3, p.ok hr rfl⟩
theorem sndc_tuple (hK : X.K = R.K) : SndC R X (.type "tuple") bTuple := by
  refine ⟨_, call_tuple_of, fun W σ μ H h as vs Q hr ra p => ?_⟩
  obtain ⟨x, v, rfl, rfl, rx, p⟩ := one_any (f := bTuple) (one_list bTuple fun xs hx => by unfold bTuple; split <;> first | exact absurd rfl (hx _) | rfl) ra p
  obtain ⟨xs, b, ws, e1, h2, h3, p⟩ := (show Post R W σ μ H (bind (seqOf x) (fun ys => ret (.tup ys)) h) Q from p).seq hr rx
  rcases h3 with ⟨h3, _⟩ | ⟨h3, ex⟩
  · exact ⟨b, ws, by rw [e1], .inl ⟨.inl h3, p.newTup hr h2⟩⟩
  · exact ⟨b, ws, by rw [e1], .inr ⟨hK ▸ h3, p.ok hr ⟨b, ws, rfl, h3, h2⟩⟩⟩
theorem sndc_list (hK : X.K = R.K) : SndC R X (.type "list") bList := by
  refine ⟨_, call_list_of, fun W σ μ H h as vs Q hr ra p => ?_⟩
  obtain ⟨x, v, rfl, rfl, rx, p⟩ := one_any (f := bList) (one_list bList fun xs hx => by unfold bList; split <;> first | exact absurd rfl (hx _) | rfl) ra p
  obtain ⟨xs, b, ws, e1, h2, h3, p⟩ := (show Post R W σ μ H (bind (seqOf x) (fun ys => ret (.lst ys)) h) Q from p).seq hr rx
  rcases h3 with ⟨h3, _⟩ | ⟨h3, ex⟩
  · exact ⟨b, ws, by rw [e1], .inl (.inl h3), p.newLst hr h2⟩
  · exact ⟨b, ws, by rw [e1], .inr (hK ▸ h3), p.newLst hr h2⟩

theorem RepL.snoc {μ : List Addr} {H : Hp} {xs : List AV} {vs : List V} {x : AV} {v : V} (h : RepL R μ H xs vs) (r : Rep R μ H x v) : RepL R μ H (xs ++ [x]) (vs ++ [v]) := h.append ⟨v, [], rfl, r, rfl⟩
theorem pureAll_append : ∀ {xs ys : List AV}, AV.pureAll xs = true → AV.pureAll ys = true → AV.pureAll (xs ++ ys) = true
  | [], _, _, h => h
  | x :: xs, ys, h, k => by
    simp only [AV.pureAll, Bool.and_eq_true] at h
    simp only [List.cons_append, AV.pureAll, Bool.and_eq_true]
    exact ⟨h.1, pureAll_append h.2 k⟩
theorem pureAll_set : ∀ {xs : List AV} {x : AV} (n : Nat), AV.pureAll xs = true → x.pure = true → AV.pureAll (xs.set n x) = true
  | [], _, _, h, _ => by simpa using h
  | x :: xs, y, 0, h, k => by
    simp only [AV.pureAll, Bool.and_eq_true] at h
    simp only [List.set_cons_zero, AV.pureAll, Bool.and_eq_true]
    exact ⟨k, h.2⟩
  | x :: xs, y, n + 1, h, k => by
    simp only [AV.pureAll, Bool.and_eq_true] at h
    simp only [List.set_cons_succ, AV.pureAll, Bool.and_eq_true]
    exact ⟨h.1, pureAll_set n h.2 k⟩
theorem HRel.write {μ : List Addr} {h : AHp} {H : Hp} {n : Nat} {a : Addr} {o : HO} {ob : AObj} (hr : HRel R μ h H) (hn : n < h.length) (ha : μ[n]? = some a) (nt : ∀ ps, H a ≠ some (.tbl ps)) (nx : ∀ c q, H a ≠ some (LamX.CodeO c q)) (new : ObjRep R μ (upd H a o) ob a) : HRel R μ (h.set n ob) (upd H a o) := by
  have e : Ev μ H μ (upd H a o) := Ev.write (List.mem_of_getElem? ha)
  have c := hr.cells
  refine ⟨by rw [List.length_set, hr.len], hr.nd, fun i ob' b h1 h2 => ?_, fun p hp => ?_, fun b hb => let ⟨m, xs, z⟩ := hr.hid b hb; ⟨m, xs, by rw [upd_ne (fun q : b = a => m (by rw [q]; exact List.mem_of_getElem? ha))]; exact z⟩⟩
  · by_cases hi : n = i
    · subst hi
      rw [List.getElem?_set_self hn] at h1
      rw [ha] at h2
      cases h1; cases h2
      exact new
    · rw [List.getElem?_set_ne hi] at h1
      have hb : b ≠ a := fun z => by
        subst z
        obtain ⟨l1, q1⟩ := List.getElem?_eq_some_iff.mp ha
        obtain ⟨l2, q2⟩ := List.getElem?_eq_some_iff.mp h2
        exact hi ((List.getElem_inj hr.nd).mp (q1.trans q2.symm))
      have q := hr.obj i ob' b h1 h2
      cases ob' with
      | lst xs =>
        obtain ⟨vs, z, r, pu⟩ := q
        exact ⟨vs, by rw [upd_ne hb]; exact z, r.ev c e, pu⟩
      | ins k fs =>
        obtain ⟨dx, fs', z, n, r, pu⟩ := q
        exact ⟨dx, fs', by rw [upd_ne hb]; exact z, n, r.ev c e, pu⟩
      | dct kvs => exact q.elim
  · obtain ⟨ps, h1, h2, h3⟩ := hr.tabs p hp
    refine ⟨ps, by rw [upd_ne (fun z : p.1 = a => nt ps (by rw [← z]; exact h1))]; exact h1, h2, fun pos cv hc => ?_⟩
    obtain ⟨c', e1, e2⟩ := h3 pos cv hc
    exact ⟨c', e1, by rw [upd_ne (fun z : c' = a => nx c' p.2 (by rw [← z]; exact e2))]; exact e2⟩
theorem HRel.setLst {μ : List Addr} {h : AHp} {H : Hp} {n : Nat} {a : Addr} {xs ys : List AV} {vs ws : List V} (hr : HRel R μ h H) (hn : h[n]? = some (.lst xs)) (ha : μ[n]? = some a) (hv : H a = some (.lst vs)) (r : RepL R μ H ys ws) (pu : AV.pureAll ys = true) :
    HRel R μ (h.set n (.lst ys)) (upd H a (.lst ws)) :=
  hr.write (List.getElem?_eq_some_iff.mp hn).1 ha (fun ps z => by rw [hv] at z; cases z) (fun c q z => by rw [hv] at z; unfold LamX.CodeO at z; cases z) ⟨ws, upd_same, r.ev hr.cells (Ev.write (List.mem_of_getElem? ha)), pu⟩
end
end Tp
end
section
set_option Elab.async false
set_option linter.all false
set_option maxRecDepth 100000
set_option maxHeartbeats 1000000

namespace Tp
open PySem PySem.Spec PyProof.Rows L2
section
variable {R : Rx} {X : Cx} {W : WX}
def rExtendR : V → List V → Hp → VK → Prop := fun x vs H Q => ∃ l b xs zs, x = .ref l ∧ vs = [.ref b] ∧ H l = some (.lst xs) ∧ Rd H b (.lst zs) ∧ xs.length + zs.length ≤ sizeLine ∧ Q .non (upd H l (.lst (xs ++ zs)))
theorem mt_extendR : MtR X "list.extend" rExtendR := by
  intro pins s σ H x vs v us Q I rx rv h
  obtain ⟨l, b, xs, zs, rfl, rfl, hH, hB, hz, q⟩ := h
  cases rx
  obtain ⟨u, rfl, ru⟩ := rv.one
  cases ru
  obtain ⟨z, its, n, r, hl, e⟩ := I.lstM hH
  obtain ⟨z2, its2, n2, r2, hl2, e2⟩ := rd_lst I hB
  have hsz : its.toArray.size + its2.toArray.size ≤ sizeLine := by rw [List.size_toArray, List.size_toArray]; omega
  have hlong : ¬ (!its.toArray.isEmpty && Builtin.List.listTooLong (its.toArray.size + its2.toArray.size)) = true := by
    rw [notLongL hsz, Bool.and_false]
    exact Bool.false_ne_true
  refine call_meets F.slot_list_extend ⟨_, e, rfl⟩ F.entry_list_extend (F.args_list_extend_2 _ _)
    (AutoSeq1.list_extend_list_list_0 l its.toArray n b its2.toArray n2 hlong (by rw [List.size_toArray]; omega) (by omega)) ⟨e, e2, ?_⟩
  refine ⟨.non, _, I.lset (its' := its ++ its2) hH e (by simp) (r.append r2) ?_, rfl, q⟩
  rw [List.length_append]
  omega
theorem countP_eqU {x : V} : ∀ {xs : List V} {us : List Value}, Vals xs us → xs.all flatV = true → us.countP (eqU x) = xs.countP fun y => eqV y x
  | _, _, .nil, _ => rfl
  | y :: xs, u :: us, .cons r t, f => by
    rw [List.all_cons, Bool.and_eq_true] at f
    rw [List.countP_cons, List.countP_cons, eqU_of r f.1, countP_eqU t f.2]
def rCntF (K : PySem.W.Frag) : V → List V → Hp → VK → Prop := fun x xs H Q => ∃ (p : Addr) (ys : List V) (y : V), x = .ref p ∧ xs = [y] ∧ SqL K H p ys ∧ flatV y = true ∧ ys.all flatV = true ∧ Q (.int (ys.countP fun z => eqV z y : Nat)) H
theorem mt_countF : MtR X "list.count" (rCntF X.K) := by
  intro pins s σ H x xs v us Q I rx rxs h
  obtain ⟨p, ys, y, rfl, rfl, hs, fy, fys, q⟩ := h
  cases rx
  obtain ⟨u, rfl, ru⟩ := rxs.one
  obtain ⟨its, rv, ⟨⟨cls, dd, data, sl⟩, n, ho, hc, hdn, hd⟩, hlen⟩ := I.list hs
  simp only at hc hd
  subst hc hd
  refine call_meets PySem.F.slot_list_count ⟨_, ho, rfl⟩ PySem.F.entry_list_count (PySem.F.args_list_count_2 _ _)
    (SeqAt.list_countAt p its.toArray n dd sl u (eqU y)) ⟨ho, fun w hw => mem_eqAt ru fy rv fys w (by simpa using hw), ?_⟩
  have ec : its.toArray.toList.countP (eqU y) = ys.countP fun z => eqV z y := countP_eqU rv fys
  refine ⟨.int (ys.countP fun z => eqV z y : Nat), H, I.tok _, ⟨s.toks, ?_⟩, q⟩
  show Value.int ((its.toArray.toList.countP (eqU y) : Nat) : Int) s.toks = Value.int ((ys.countP fun z => eqV z y : Nat) : Int) s.toks
  rw [ec]

def SndM (R : Rx) (X : Cx) (id : String) (op : AV → List AV → M AV) : Prop :=
  ∃ r : V → List V → Hp → VK → Prop, MtR X id r ∧ ∀ (W : WX) (σ : L2.St) (μ : List Addr) (H : Hp) (h : AHp) (o : AV) (as : List AV) (x : V) (vs : List V) (Q : VK), HRel R μ h H → Rep R μ H o x → RepL R μ H as vs → Post R W σ μ H (op o as h) Q → r x vs H Q
theorem ae_meth (hK : X.K = R.K) {op : AV → List AV → M AV} {name : Str} {id : String} {o : Expr} {es : List Expr} {mo : DE} {a : DA} {apos cpos : Pos} (s : SndM R X id op) (slot : Slot "list" name id) (hty : typeOf (.builtin id) = pure (.type "method_descriptor"))
    (ho : AE R X W o mo) (ha : AA R X W es a) (hne : es ≠ [])
    (hbase : attributeBase o name X.env (eval o X.env) = eval o X.env)
    (hfew : ∀ e r, es = e :: r → ((backTo cpos (starEach (e :: r) X.env)).all (fun x => !x.1) && (backToKw cpos (keywordEach [] X.env)).all (fun x => x.1.isSome)
      && decide ((e :: r).length + ([] : List Keyword).length + (if ([] : List Keyword).isEmpty then 0 else 1) < 30)) = true)
    (hline : (apos.endLine == cpos.line) = true) (hs : ∀ e r, es = e :: r → starEach (e :: r) X.env = (false, eval e X.env) :: starEach r X.env) (hplain : ∀ e r, es = e :: r → (backTo cpos (starEach r X.env)).any (·.1) = false) :
    AE R X W (.Call (.Attribute o name apos) es [] cpos) (fun env => bind (mo env) fun v => bind (lstOf v) fun _ => bind (a env) fun xs => op v xs) := by
  obtain ⟨r, hm, hk⟩ := s
  cases es with
  | nil => exact absurd rfl hne
  | cons e rest =>
    refine (pe_bm F.plainAttrs_list slot hty hm ho ha hbase (hfew e rest rfl) hline (hs e rest rfl) (hplain e rest rfl)).imp fun σ H Q ⟨μ, env, h, S, hr, p⟩ => ?_
    refine rdE_bind S hr p fun av h1 μ1 H1 v ev S1 hr1 rv p => ?_
    obtain ⟨xs, b, ws, e1, h2, h3, p⟩ := p.lst hr1 rv
    refine ⟨?_, ?_⟩
    · rw [e1]
      exact .inl ⟨rfl, ws, .inl h2⟩
    refine rdA_bind S1 hr1 p fun avs h2 μ2 H2 vs ev2 S2 hr2 rvs p => ?_
    exact hk W σ μ2 H2 h2 av avs v vs Q hr2 (rv.ev hr1.cells ev2) rvs p
theorem one_cases (f : AV → List AV → M AV) (hf : ∀ o xs, (∀ x, xs ≠ [x]) → f o xs = fail) {μ : List Addr} {H : Hp} {σ : L2.St} {h : AHp} {Q : VK} {o : AV} {as : List AV} {vs : List V} (ra : RepL R μ H as vs) (p : Post R W σ μ H (f o as h) Q) :
    ∃ x v, as = [x] ∧ vs = [v] ∧ Rep R μ H x v ∧ Post R W σ μ H (f o [x] h) Q := by
  match as, ra, p with
  | [x], ra, p =>
    obtain ⟨v, rfl, rx⟩ := RepL.one ra
    exact ⟨x, v, rfl, rfl, rx, p⟩
  | [], _, p => rw [hf _ _ (fun x z => by cases z)] at p; exact p.elim
  | _ :: _ :: _, _, p => rw [hf _ _ (fun x z => by cases z)] at p; exact p.elim
theorem sndm_append : SndM R X "list.append" mAppend := by
  refine ⟨_, mt_append, fun W σ μ H h o as x vs Q hr ro ra p => ?_⟩
  obtain ⟨y, v, rfl, rfl, ry, p⟩ := one_cases mAppend (fun o xs hx => by unfold mAppend; split <;> first | exact absurd rfl (hx _) | rfl) ra p
  cases o with
  | ref n =>
    obtain ⟨a, ha, rfl⟩ := ro
    cases e : h[n]? with
    | none =>
      have e0 : mAppend (.ref n) [y] h = .stuck := by simp only [mAppend, e]
      rw [e0] at p; exact p.elim
    | some ob =>
      cases ob with
      | lst ys =>
        have e0 : mAppend (.ref n) [y] h = if ys.length < SL ∧ y.pure = true then .ok .non (h.set n (.lst (ys ++ [y]))) else .stuck := by simp only [mAppend, e]
        rw [e0] at p
        by_cases c : ys.length < SL ∧ y.pure = true
        · rw [if_pos c] at p
          obtain ⟨ws, z, rw', pu⟩ := hr.obj n _ a e ha
          refine ⟨a, ws, v, rfl, rfl, z, by rw [rw'.length, ← SL_eq]; exact c.1, ?_⟩
          exact p μ _ .non (Ev.write (List.mem_of_getElem? ha)) (hr.setLst e ha z (rw'.snoc ry) (pureAll_append pu (by simp [AV.pureAll, c.2]))) rfl
        · rw [if_neg c] at p; exact p.elim
      | _ =>
        have e0 : mAppend (.ref n) [y] h = .stuck := by simp only [mAppend, e]
        rw [e0] at p; exact p.elim
  | _ => exact p.elim
theorem sndm_extend : SndM R X "list.extend" mExtend := by
  refine ⟨_, mt_extendR, fun W σ μ H h o as x vs Q hr ro ra p => ?_⟩
  obtain ⟨y, v, rfl, rfl, ry, p⟩ := one_cases mExtend (fun o xs hx => by unfold mExtend; split <;> first | exact absurd rfl (hx _) | rfl) ra p
  obtain ⟨zs, b, vs, e1, h2, h3, p⟩ := (show Post R W σ μ H (bind (lstOf y) (extendBy o) h) Q from p).lst hr ry
  cases o with
  | ref n =>
    obtain ⟨a, ha, rfl⟩ := ro
    cases e : h[n]? with
    | none =>
      simp only [extendBy, e] at p
      exact p.elim
    | some ob =>
      cases ob with
      | lst ys =>
        simp only [extendBy, e] at p
        by_cases c : ys.length + zs.length ≤ SL ∧ AV.pureAll zs = true
        · rw [if_pos c] at p
          obtain ⟨ws, z, rw', pu⟩ := hr.obj n _ a e ha
          refine ⟨a, b, ws, vs, rfl, by rw [e1], z, h2, by rw [rw'.length, h3.length, ← SL_eq]; exact c.1, ?_⟩
          exact p μ _ .non (Ev.write (List.mem_of_getElem? ha)) (hr.setLst e ha z (rw'.append h3) (pureAll_append pu c.2)) rfl
        · rw [if_neg c] at p; exact p.elim
      | _ =>
        simp only [extendBy, e] at p
        exact p.elim
  | _ => exact p.elim
theorem countP_rep {μ : List Addr} {H : Hp} {x : AV} {v : V} (fx : flat x = true) (rx : Rep R μ H x v) : ∀ {xs : List AV} {vs : List V}, xs.all flat = true → RepL R μ H xs vs → (vs.countP fun z => eqV z v) = xs.countP fun y => y.eqv x
  | [], _, _, h => by rw [show _ = [] from h]; rfl
  | y :: xs, _, f, h => by
    obtain ⟨u, r, rfl, h1, h2⟩ := h
    obtain ⟨f1, f2⟩ := Bool.and_eq_true_iff.mp (show (flat y && xs.all flat) = true from f)
    rw [List.countP_cons, List.countP_cons, eqV_rep f1 fx h1 rx, countP_rep fx rx f2 h2]
theorem sndm_count (hK : X.K = R.K) : SndM R X "list.count" mCount := by
  refine ⟨_, mt_countF, fun W σ μ H h o as x vs Q hr ro ra p => ?_⟩
  obtain ⟨y, v, rfl, rfl, ry, p⟩ := one_cases mCount (fun o xs hx => by unfold mCount; split <;> first | exact absurd rfl (hx _) | rfl) ra p
  cases o with
  | lst ys =>
    obtain ⟨c, p⟩ := (show Post R W σ μ H ((if flat y && ys.all flat then ret (.int (ys.countP fun z => z.eqv y : Nat)) else fail) h) Q from p).iteP
    obtain ⟨f1, f2⟩ := Bool.and_eq_true_iff.mp c
    obtain ⟨a, ws, rfl, h2, _, h3⟩ := ro
    refine ⟨a, ws, v, rfl, rfl, .inl h2, flat_rep f1 ry, flats_rep f2 h3, ?_⟩
    rw [countP_rep f1 ry f2 h3]
    exact p.ok hr rfl
  | _ => exact p.elim
theorem toPDs_get : ∀ {ys : List AV} {i : Nat} {y : AV}, ys[i]? = some y → (toPDs ys)[i]? = some (toPD y)
  | [], _, _, e => by simp at e
  | x :: xs, 0, _, e => by simp at e; subst e; rfl
  | x :: xs, i + 1, _, e => by
    simp only [toPDs, List.getElem?_cons_succ]
    exact toPDs_get (by simpa using e)
theorem toPDs_len : ∀ (ys : List AV), (toPDs ys).length = ys.length
  | [] => rfl
  | x :: xs => by simp [toPDs, toPDs_len xs]
theorem datAll_get : ∀ {n : Nat} {ys : List AV} {i : Nat} {y : AV}, AV.datAll n ys = true → ys[i]? = some y → y.dat n = true
  | _, [], _, _, _, e => by simp at e
  | n, x :: xs, 0, _, d, e => by
    have d' : x.dat n = true ∧ AV.datAll n xs = true := by simpa [AV.datAll] using d
    simp at e; subst e; exact d'.1
  | n, x :: xs, i + 1, _, d, e => by
    have d' : x.dat n = true ∧ AV.datAll n xs = true := by simpa [AV.datAll] using d
    exact datAll_get d'.2 (by simpa using e)
theorem sndm_index (hK : X.K = R.K) (hu : X.A.units + 65 < cLine) : SndM R X "list.index" mIndex := by
  refine ⟨_, mt_indexD hu, fun W σ μ H h o as x vs Q hr ro ra p => ?_⟩
  obtain ⟨y, v, rfl, rfl, ry, p⟩ := one_cases mIndex (fun o xs hx => by unfold mIndex; split <;> first | exact absurd rfl (hx _) | rfl) ra p
  cases o with
  | lst ys =>
    obtain ⟨c, p⟩ := (show Post R W σ μ H ((if y.dat DD && AV.datAll DD ys then bind (ofOpt (firstIx ys y)) fun j => ret (.int j) else fail) h) Q from p).iteP
    obtain ⟨f1, f2⟩ := Bool.and_eq_true_iff.mp c
    obtain ⟨j, e, p⟩ := p.opt
    have e' : ys.findIdx? (fun z => z.eqv y) = some j := by
      unfold firstIx at e
      cases q : ys.findIdx? (fun z => z.eqv y) with
      | none => rw [q] at e; cases e
      | some k => rw [q] at e; exact e
    rw [List.findIdx?_eq_some_iff_getElem] at e'
    obtain ⟨hj, e1, e2⟩ := e'
    obtain ⟨a, ws, rfl, h2, hn, h3⟩ := ro
    have hz : ys[j]? = some ys[j] := List.getElem?_eq_getElem hj
    refine ⟨a, v, toPD y, toPDs ys, j, toPD ys[j], rfl, rfl, hK ▸ .lst (.inl h2) (dat_dps _ ys ws f2 h3), hK ▸ dat_dp _ y v f1 ry, dats_shaped f2, dat_shaped f1, toPDs_get hz, ?_, fun m z' hm hz' => ?_, p.ok hr rfl⟩
    · rw [eqv_pd _ _ _ _ (datAll_get f2 hz) f1]
      exact e1
    · have hm' : m < ys.length := by omega
      have q := toPDs_get (List.getElem?_eq_getElem hm')
      rw [q] at hz'
      cases hz'
      rw [eqv_pd _ _ _ _ (datAll_get f2 (List.getElem?_eq_getElem hm')) f1]
      have := e2 m hm
      simpa using this
  | _ => exact p.elim
theorem mt_hty (m : MF) : typeOf (.builtin (match m with
    | .append => "list.append"
    | .extend => "list.extend"
    | .count => "list.count"
    | .index => "list.index")) = pure (.type "method_descriptor") := by
  cases m <;> rfl
end
end Tp
end
section
set_option Elab.async false
set_option linter.all false
set_option maxRecDepth 100000
set_option maxHeartbeats 1000000

namespace Tp
open PySem PySem.Spec PyProof.Rows L2

def bNames : List Str := ["int", "bool", "str", "tuple", "list", "dict", "ValueError", "isinstance", "len", "abs", "max", "min", "sum", "all", "any", "divmod", "range", "enumerate", "zip"]
def kinds : List String := "NoneType" :: tyNames

structure Facts (R : Rx) (mg : Str → Option Value) : Prop where
  name : ∀ x g, R.G.names.lookup x = some g → ∃ u v, mg x = some u ∧ RelV v u ∧ ∀ hid ex μ H, Rep { R with hid := hid, ex := ex } μ H (gvV g) v
  bnone : ∀ x, x ∈ bNames → R.G.names.lookup x = none → mg x = none
  fkeep : ∀ i fi, R.G.fns[i]? = some fi → PySem.W.keepIn R.K (.ref (R.fa i)) = true
  ocls1 : PySem.W.specialIn R.K (.builtin "object.__class__") "__get__" = some (some (.builtin "getset_descriptor.__get__"))
  ocls2 : PySem.W.takesIn R.K (.builtin "object.__class__") = some true
  xat : ∀ c e, R.G.excs[c]? = some e → XfC R.K (R.xa c) ∧ (PySem.W.clsIn R.K (R.xa c)).isSome = true ∧ PySem.W.findIn R.K (.ref (R.xa c)) "__class__" = some (some (.builtin "object.__class__")) ∧ PySem.W.mroIn R.K (R.xa c) (.type "object") = some true
  xfld : ∀ c e f, R.G.excs[c]? = some e → e.field = some f → PySem.W.findIn R.K (.ref (R.xa c)) f = some none
  xis : ∀ c e d, R.G.excs[c]? = some e → d < R.G.excs.length → PySem.W.kitOne R.K (.ref (R.xa c)) (.ref (R.xa d)) = some (e.up.contains d) ∧ PySem.W.exmOne R.K (.ref (R.xa c)) (.ref (R.xa d)) = some (e.up.contains d)
  xval : ∀ c e, R.G.excs[c]? = some e → PySem.W.kitOne R.K (.ref (R.xa c)) (.type "ValueError") = some true
  cat : ∀ k ci, R.G.clss[k]? = some ci → Cls R.K (R.ca k) ∧ Mk R.K (R.ca k) (R.fa ci.init) ∧ PySem.W.findIn R.K (.ref (R.ca k)) "__class__" = some (some (.builtin "object.__class__")) ∧ PySem.W.mroIn R.K (R.ca k) (.type "object") = some true
  cfld : ∀ k ci f, R.G.clss[k]? = some ci → f ∈ ci.fields → NoAttr R.K (R.ca k) f
  cmeth : ∀ k ci m g, R.G.clss[k]? = some ci → ci.meths.lookup m = some g → Meth R.K (R.ca k) m (R.fa g)
  cprop : ∀ k ci f g, R.G.clss[k]? = some ci → ci.props.lookup f = some g → ∃ p, PropOf R.K (R.ca k) f p (R.fa g)
  cis : ∀ k ci d, R.G.clss[k]? = some ci → d < R.G.clss.length → PySem.W.kitOne R.K (.ref (R.ca k)) (.ref (R.ca d)) = some (k == d)
  cty : ∀ k ci n, R.G.clss[k]? = some ci → n ∈ tyNames → PySem.W.kitOne R.K (.ref (R.ca k)) (.type n) = some false
  tyc : ∀ d n, d < R.G.clss.length → n ∈ kinds → PySem.W.kitOne R.K (.type n) (.ref (R.ca d)) = some false


section
variable {R : Rx} {X : Cx} {W : WX}
theorem notDebug_ok {x : Str} (h : notDebug x = true) : (x == ("__debug__" : Str)) = false ∧ (x == ("__classdict__" : Str)) = false ∧ x ≠ "__name__" := by
  unfold notDebug at h
  simp only [Bool.and_eq_true, Bool.not_eq_true'] at h
  exact ⟨h.1.1, h.1.2, fun e => by rw [e] at h; simp at h⟩
theorem ixOf_ok {N : List Str} {x : Str} {i : Nat} (h : ixOf N x = some i) : N[i]? = some x := by
  unfold ixOf at h
  rw [List.findIdx?_eq_some_iff_getElem] at h
  obtain ⟨hi, e, _⟩ := h
  rw [List.getElem?_eq_getElem hi]
  simpa using e
theorem ixOf_none {N : List Str} {x : Str} (h : ixOf N x = none) : x ∉ N := by
  unfold ixOf at h
  rw [List.findIdx?_eq_none_iff] at h
  intro hm
  have := h x hm
  simp at this
theorem localK_ok {sc : Scope} {x : Str} (h : localK (sc.names.lookup x) = true) : Vis sc x := by
  cases e : sc.names.lookup x with
  | none => rw [e] at h; cases h
  | some k =>
    rw [e] at h
    cases k <;> first | (exact .inl e) | (exact .inr (.inl e)) | (exact .inr (.inr e)) | cases h
theorem globalK_ok {X : Cx} {x : Str} (h : globalK (X.env.scope.names.lookup x) = true) : Gl X x := by
  show X.env.scope.names.lookup x = _
  cases e : X.env.scope.names.lookup x with
  | none => rw [e] at h; cases h
  | some k =>
    rw [e] at h
    cases k <;> first | rfl | cases h
theorem boots : bootBuiltins "int" = some (.type "int") ∧ bootBuiltins "bool" = some (.type "bool") ∧ bootBuiltins "str" = some (.type "str") ∧ bootBuiltins "tuple" = some (.type "tuple") ∧ bootBuiltins "list" = some (.type "list") ∧ bootBuiltins "dict" = some (.type "dict") ∧ bootBuiltins "ValueError" = some (.type "ValueError") ∧
    bootBuiltins "isinstance" = some (.builtin "isinstance") ∧ bootBuiltins "len" = some (.builtin "len") ∧ bootBuiltins "abs" = some (.builtin "abs") ∧ bootBuiltins "max" = some (.builtin "max") ∧ bootBuiltins "min" = some (.builtin "min") ∧ bootBuiltins "sum" = some (.builtin "sum") ∧ bootBuiltins "all" = some (.builtin "all") ∧ bootBuiltins "any" = some (.builtin "any") ∧ bootBuiltins "divmod" = some (.builtin "divmod") := by
  refine ⟨?_, ?_, ?_, ?_, ?_, ?_, ?_, ?_, ?_, ?_, ?_, ?_, ?_, ?_, ?_, ?_⟩ <;> kernel_rfl

theorem builtinTys_ok {x : Str} {n : String} (h : builtinTys.lookup x = some n) : x ∈ bNames ∧ bootBuiltins x = some (.type n) := by
  obtain ⟨b1, b2, b3, b4, b5, b6, b7, _⟩ := boots
  have key : ∀ (l : List (Str × String)), (∀ p ∈ l, p.1 ∈ bNames ∧ bootBuiltins p.1 = some (.type p.2)) → ∀ x n, l.lookup x = some n → x ∈ bNames ∧ bootBuiltins x = some (.type n) := by
    intro l hl x n h
    exact hl (x, n) (PySem.mem_of_lookup h)
  refine key builtinTys (fun p hp => ?_) x n h
  unfold builtinTys at hp
  simp only [List.mem_cons, List.not_mem_nil, or_false] at hp
  rcases hp with rfl | rfl | rfl | rfl | rfl | rfl | rfl
  · exact ⟨by simp [bNames], b1⟩
  · exact ⟨by simp [bNames], b2⟩
  · exact ⟨by simp [bNames], b3⟩
  · exact ⟨by simp [bNames], b4⟩
  · exact ⟨by simp [bNames], b5⟩
  · exact ⟨by simp [bNames], b6⟩
  · exact ⟨by simp [bNames], b7⟩
theorem ae_name (F : Facts R X.mg) {N : List Str} (hN : X.N = N) {sc : Scope} (hsc : X.env.scope = sc) {x : Str} {pos : Pos} : AE R X W (.Name x pos) (eName R.G N sc x) := by
  subst hN hsc
  unfold eName
  by_cases hd : notDebug x = true
  · rw [if_pos hd]
    obtain ⟨d1, d2, d3⟩ := notDebug_ok hd
    by_cases hl : localK (X.env.scope.names.lookup x) = true
    · rw [if_pos hl]
      cases q : ixOf X.N x with
      | none => exact ae_fail
      | some i => exact ae_var (pe_var (ixOf_ok q) (localK_ok hl) d1 d2)
    · rw [if_neg hl]
      by_cases hg : globalK (X.env.scope.names.lookup x) = true
      · rw [if_pos hg]
        cases q : R.G.names.lookup x with
        | some g =>
          obtain ⟨u, v, h1, h2, h3⟩ := F.name x g q
          exact ae_const (pe_glob (globalK_ok hg) h1 h2 d1) (h3 R.hid R.ex)
        | none =>
          cases q2 : builtinTys.lookup x with
          | none => exact ae_fail
          | some n =>
            obtain ⟨h1, h2⟩ := builtinTys_ok q2
            exact ae_const (pe_bltn (v := .ty n) (globalK_ok hg) (F.bnone x h1 q) h2 rfl d3 d1) fun μ H => rfl
      · rw [if_neg hg]
        exact ae_fail
  · rw [if_neg hd]
    exact ae_fail



def ExPin (R : Rx) (X : Cx) : Prop := ∀ a cls d, R.ex = some (a, cls, d) → ∃ oe, (a, oe) ∈ X.pn ∧ Zc cls d oe ∧ ∃ vs, oe.data = .fields vs
def rIsX (R : Rx) : List V → Hp → VK → Prop := fun xs H Q => ∃ (a : Addr) (D dd : Addr) (fs : List (Str × V)) (c : V) (cv : Value) (k : Nat) (e : ExcInfo) (b : Bool), xs = [.ref a, c] ∧ R.ex = some (a, .ref D, some dd) ∧ H dd = some (.xd fs) ∧ R.G.excs[k]? = some e ∧ D = R.xa k ∧ ClsV c cv ∧ PySem.W.kitOne R.K (.ref D) cv = some b ∧ Q (.bl b) H
theorem call_isX (F : Facts R X.mg) (hK : X.K = R.K) (hx : ExPin R X) : CallR X (.builtin "isinstance") (rIsX R) := by
  intro pins s σ H xs us Q I r h
  obtain ⟨a, D, dd, fs, c, cv, k, e, b, rfl, ex, ea, he, eD, hc, hk, q⟩ := h
  obtain ⟨u1, u2, rfl, r1, r2⟩ := vals2 r
  have e2 := hc.eq r2
  subst e2
  cases (show u1 = Value.ref a from r1)
  obtain ⟨oe, hp, hz, vs, hd⟩ := hx _ _ _ ex
  obtain ⟨ha, _⟩ := I.pin (a, oe) (List.mem_append_left _ hp)
  have hx : ObjOk X.prog X.w H s.heap dd (.xd fs) := I.hok dd _ ea
  obtain ⟨mA, hns, hr⟩ := hx
  obtain ⟨od, ho, hl⟩ := lookIn_ns hns
  have J : PySem.W.InstAt s.heap a oe D (some od) := ⟨ha, hz.1, by unfold PySem.W.notCls; rw [hd] <;> rfl, by rw [hz.2]; exact ho⟩
  obtain ⟨xc, x1, x2, x3⟩ := F.xat k e he
  subst eD
  have kin : R.K.In s.heap := hK ▸ I.kIn
  exact PySem.W.kia_one (PySem.W.kitx_exc x1 xc.ga xc.gg xc.exC x2 F.ocls1 F.ocls2 x3) kin J hk (fun z => nomatch z) fun tk => ⟨.bl b, H, I.tok tk, rfl, q⟩
theorem kitTys (K : PySem.W.Frag) : ∀ a ∈ kinds, ∀ b ∈ tyNames, PySem.W.kitOne K (.type a) (.type b) = some (a == b || (a == "bool" && b == "int")) := by
  have h : (kinds.all fun a => tyNames.all fun b => decide (kitB a b = some (a == b || (a == "bool" && b == "int")))) = true := by decide +kernel
  intro a ha b hb
  have h1 := List.all_eq_true.mp h a ha
  have h2 := List.all_eq_true.mp h1 b hb
  exact kit_ty (of_decide_eq_true h2)

def kindOf : AV → Option String
  | .non => some "NoneType"
  | .bl _ => some "bool"
  | .int _ => some "int"
  | .str _ => some "str"
  | .tup _ => some "tuple"
  | .lst _ => some "list"
  | _ => none
theorem kindOf_ok {μ : List Addr} {H : Hp} {x : AV} {v : V} {n : String} (e : kindOf x = some n) (r : Rep R μ H x v) : TyX R.K H v (.type n) ∧ n ∈ kinds := by
  cases x <;> first | (simp [kindOf] at e; done) | skip
  · cases e; rw [show v = _ from r]; exact ⟨.base .non, by simp [kinds]⟩
  · cases e; rw [show v = _ from r]; exact ⟨.base (.bl _), by simp [kinds, tyNames]⟩
  · cases e; rw [show v = _ from r]; exact ⟨.base (.int _), by simp [kinds, tyNames]⟩
  · cases e; rw [show v = _ from r]; exact ⟨.base (.str _), by simp [kinds, tyNames]⟩
  · cases e
    obtain ⟨a, vs, rfl, h1, _⟩ := r
    refine ⟨?_, by simp [kinds, tyNames]⟩
    rcases h1 with (h1 | ⟨o, h1⟩) | ⟨o, its, n, h1, h2, _⟩
    · exact .base (.tup h1)
    · exact .fTuple h1
    · exact .kTuple h1 h2
  · cases e
    obtain ⟨a, vs, rfl, h1, _⟩ := r
    refine ⟨?_, by simp [kinds, tyNames]⟩
    rcases h1 with h1 | ⟨o, h1⟩
    · exact .base (.lst h1)
    · exact .base (.frz h1)
theorem isTy_kind {x : AV} {a n : String} (e : kindOf x = some a) (hn : n ∈ tyNames) : isTy x n = (a == n || (a == "bool" && n == "int")) := by
  unfold tyNames at hn
  simp only [List.mem_cons, List.not_mem_nil, or_false] at hn
  cases x <;> first | (simp [kindOf] at e; done) | (cases e; rcases hn with rfl | rfl | rfl | rfl | rfl | rfl <;> rfl)

theorem ins_ty (F : Facts R X.mg) {H : Hp} {a dx : Addr} {c : Nat} {fs : List (Str × V)} (e : H a = some (.ins (R.ca c) dx fs)) (hc : c < R.G.clss.length) : TyX R.K H (.ref a) (.ref (R.ca c)) := by
  obtain ⟨h1, _, h3, h4⟩ := F.cat c _ (List.getElem?_eq_getElem hc)
  exact .base (.ins e h1 h3 F.ocls1 F.ocls2 h4)
theorem isInst_rel (F : Facts R X.mg) {σ : L2.St} {μ : List Addr} {H : Hp} {h : AHp} {x c : AV} {v w : V} {Q : VK} (hr : HRel R μ h H) (rx : Rep R μ H x v) (rc : Rep R μ H c w) (p : Post R W σ μ H (isInst R.G x c h) Q) :
    rIsi R.K [v, w] H Q ∨ rIsX R [v, w] H Q := by
  have fin : ∀ {t u : Value} {b : Bool}, TyX R.K H v t → ClsV w u → PySem.W.kitOne R.K t u = some b → Post R W σ μ H (.ok (.bl b) h) Q → rIsi R.K [v, w] H Q ∨ rIsX R [v, w] H Q := fun {t u b} ht hu hk p =>
    .inl ⟨v, w, t, u, b, rfl, hu, ht, hk, p μ H (.bl b) (Ev.refl _ _) hr rfl⟩
  -- an instance
  have insT : ∀ {k : Nat} {a dx : Addr} {fs : List (Str × V)} {n : String}, v = .ref a → H a = some (.ins (R.ca k) dx fs) → k < R.G.clss.length → w = .ty n → n ∈ tyNames → Post R W σ μ H (.ok (.bl false) h) Q → rIsi R.K [v, w] H Q ∨ rIsX R [v, w] H Q := fun {k a dx fs n} ev ea hk ew hn p => by
    refine fin (t := .ref (R.ca k)) (u := .type n) ?_ ?_ (F.cty k _ n (List.getElem?_eq_getElem hk) hn) p
    · rw [ev]; exact ins_ty F ea hk
    · rw [ew]; exact .ty n
  have insC : ∀ {k d : Nat} {a dx : Addr} {fs : List (Str × V)}, v = .ref a → H a = some (.ins (R.ca k) dx fs) → k < R.G.clss.length → w = .ref (R.ca d) → d < R.G.clss.length → Post R W σ μ H (.ok (.bl (k == d)) h) Q → rIsi R.K [v, w] H Q ∨ rIsX R [v, w] H Q := fun {k d a dx fs} ev ea hk ew hd p => by
    refine fin (t := .ref (R.ca k)) (u := .ref (R.ca d)) ?_ ?_ (F.cis k _ d (List.getElem?_eq_getElem hk) hd) p
    · rw [ev]; exact ins_ty F ea hk
    · rw [ew]; exact .own _
  cases c with
  | ty n =>
    have ew : w = .ty n := rc
    -- plain kinds
    have plain : ∀ (a : String), kindOf x = some a → Post R W σ μ H ((if tyNames.contains n then Res.ok (.bl (isTy x n)) h else .stuck)) Q → rIsi R.K [v, w] H Q ∨ rIsX R [v, w] H Q := fun a ha p => by
      by_cases hn : tyNames.contains n = true
      · rw [if_pos hn] at p
        have hn' : n ∈ tyNames := by simpa using hn
        obtain ⟨h1, h2⟩ := kindOf_ok ha rx
        rw [isTy_kind ha hn'] at p
        exact fin h1 (by rw [ew]; exact .ty n) (kitTys R.K a h2 n hn') p
      · rw [if_neg hn] at p; exact p.elim
    have inst : ∀ {k : Nat} {a dx : Addr} {fs : List (Str × V)}, v = .ref a → H a = some (.ins (R.ca k) dx fs) → k < R.G.clss.length → Post R W σ μ H ((if tyNames.contains n then Res.ok (.bl false) h else .stuck)) Q → rIsi R.K [v, w] H Q ∨ rIsX R [v, w] H Q := fun {k a dx fs} ev ea hk p => by
      by_cases hn : tyNames.contains n = true
      · rw [if_pos hn] at p
        exact insT ev ea hk ew (by simpa using hn) p
      · rw [if_neg hn] at p; exact p.elim
    cases x with
    | non => exact plain _ rfl p
    | bl b => exact plain _ rfl p
    | int i => exact plain _ rfl p
    | str z => exact plain _ rfl p
    | tup xs => exact plain _ rfl p
    | lst xs => exact plain _ rfl p
    | dct kvs => exact rx.elim
    | obj k fs =>
      obtain ⟨a, dx, fs', e1, h1, _, k1, _⟩ := rx
      exact inst e1 h1 k1 p
    | ref j =>
      obtain ⟨a, ha, e1⟩ := rx
      cases q : h[j]? with
      | none => simp only [isInst, q] at p; exact p.elim
      | some ob =>
        simp only [isInst, q] at p
        have ho := hr.obj j _ a q ha
        cases ob with
        | lst xs =>
          obtain ⟨vs, z, _⟩ := ho
          by_cases hn : tyNames.contains n = true
          · rw [if_pos hn] at p
            have hn' : n ∈ tyNames := by simpa using hn
            have e2 : (n == "list") = ("list" == n || ("list" == "bool" && n == "int")) := by
              unfold tyNames at hn'
              simp only [List.mem_cons, List.not_mem_nil, or_false] at hn'
              rcases hn' with rfl | rfl | rfl | rfl | rfl | rfl <;> rfl
            rw [e2] at p
            exact fin (t := .type "list") (by rw [e1]; exact .base (.lst z)) (by rw [ew]; exact .ty n) (kitTys R.K "list" (by simp [kinds, tyNames]) n hn') p
          · rw [if_neg hn] at p; exact p.elim
        | dct kvs => exact ho.elim
        | ins k fs =>
          obtain ⟨dx, fs', z, k1, _⟩ := ho
          exact inst e1 z k1 p
    | exc k y =>
      obtain ⟨a, d, f, u, h1, h2, h3, h4, _, _⟩ := rx
      by_cases hn : (n == "ValueError") = true
      · simp only [isInst, hn, if_true] at p
        have en : n = "ValueError" := by simpa using hn
        cases q : R.G.excs[k]? with
        | none => rw [q] at h3; cases h3
        | some e =>
          refine .inr ⟨a, R.xa k, d, _, w, .type n, k, e, true, by rw [h2], h1, h4, q, rfl, by rw [ew]; exact .ty n, by rw [en]; exact F.xval k e q, p μ H (.bl true) (Ev.refl _ _) hr rfl⟩
      · simp only [isInst, hn, if_false] at p
        exact p.elim
    | fn i => exact p.elim
    | clo i cs => exact p.elim
    | cls i => exact p.elim
    | xcls i => exact p.elim
    | ty m => exact p.elim
  | xcls d =>
    obtain ⟨ew, hd⟩ := rc
    cases x with
    | exc k y =>
      obtain ⟨a, dd, f, u, h1, h2, h3, h4, _, _⟩ := rx
      cases q : R.G.excs[k]? with
      | none => rw [q] at h3; cases h3
      | some e =>
        simp only [isInst, q] at p
        exact .inr ⟨a, R.xa k, dd, _, w, .ref (R.xa d), k, e, _, by rw [h2], h1, h4, q, rfl, by rw [ew]; exact .own _, (F.xis k e d q hd).1, p μ H (.bl _) (Ev.refl _ _) hr rfl⟩
    | _ => exact p.elim
  | cls d =>
    obtain ⟨ew, hd⟩ := rc
    have plain : ∀ (a : String), kindOf x = some a → Post R W σ μ H (.ok (.bl false) h) Q → rIsi R.K [v, w] H Q ∨ rIsX R [v, w] H Q := fun a ha p => by
      obtain ⟨h1, h2⟩ := kindOf_ok ha rx
      exact fin h1 (u := .ref (R.ca d)) (by rw [ew]; exact .own _) (F.tyc d a hd h2) p
    cases x with
    | non => exact plain _ rfl p
    | bl b => exact plain _ rfl p
    | int i => exact plain _ rfl p
    | str z => exact plain _ rfl p
    | tup xs => exact plain _ rfl p
    | lst xs => exact plain _ rfl p
    | dct kvs => exact rx.elim
    | obj k fs =>
      obtain ⟨a, dx, fs', e1, h1, _, k1, _⟩ := rx
      exact insC e1 h1 k1 ew hd p
    | ref j =>
      obtain ⟨a, ha, e1⟩ := rx
      cases q : h[j]? with
      | none => simp only [isInst, q] at p; exact p.elim
      | some ob =>
        simp only [isInst, q] at p
        have ho := hr.obj j _ a q ha
        cases ob with
        | lst xs => exact p.elim
        | dct kvs => exact ho.elim
        | ins k fs =>
          obtain ⟨dx, fs', z, k1, _⟩ := ho
          exact insC e1 z k1 ew hd p
    | exc k y => exact p.elim
    | fn i => exact p.elim
    | clo i cs => exact p.elim
    | cls i => exact p.elim
    | xcls i => exact p.elim
    | ty m => exact p.elim
  | _ => exact p.elim
theorem sndc_isinst (F : Facts R X.mg) (hK : X.K = R.K) (hx : ExPin R X) : SndC R X (.builtin "isinstance") (bIsInst R.G) := by
  refine ⟨_, call_isi.or (call_isX F hK hx), fun W σ μ H h as vs Q hr ra p => ?_⟩
  match as, ra, p with
  | [x, c], ra, p =>
    obtain ⟨v, w, rfl, rx, ry⟩ := RepL.two ra
    rw [hK]
    exact isInst_rel F hr rx ry p
  | [], _, p => exact p.elim
  | [_], _, p => exact p.elim
  | _ :: _ :: _ :: _, _, p => exact p.elim

theorem sndc_builtin (F : Facts R X.mg) (hK : X.K = R.K) (hx : ExPin R X) (b : BF) (hc : b.calm = true → X.calm = true) : ∃ f : Value, SndC R X f (builtin R.G b) ∧ ((∃ n, f = .builtin n) ∨ ∃ n, f = .type n) ∧ ∀ x, bfOf.lookup x = some b → x ∈ bNames ∧ bootBuiltins x = some f := by
  obtain ⟨_, _, _, _, _, _, _, b8, b9, b10, b11, b12, b13, b14, b15, b16⟩ := boots
  obtain ⟨b1, _, _, b4, b5, _⟩ := boots
  have nm : ∀ (y : Str) (f : Value), y ∈ bNames → bootBuiltins y = some f → (∀ p ∈ bfOf, p.2 = b → p.1 = y) → ∀ x, bfOf.lookup x = some b → x ∈ bNames ∧ bootBuiltins x = some f := fun y f h1 h2 h3 x hx => by
    have e := h3 (x, b) (PySem.mem_of_lookup hx) rfl
    rw [show x = y from e]
    exact ⟨h1, h2⟩
  cases b with
  | isinstance => exact ⟨_, sndc_isinst F hK hx, .inl ⟨_, rfl⟩, nm "isinstance" _ (by simp [bNames]) b8 (by decide)⟩
  | len => exact ⟨_, sndc_len hK, .inl ⟨_, rfl⟩, nm "len" _ (by simp [bNames]) b9 (by decide)⟩
  | int => exact ⟨_, sndc_int, .inr ⟨_, rfl⟩, nm "int" _ (by simp [bNames]) b1 (by decide)⟩
  | abs => exact ⟨_, sndc_abs, .inl ⟨_, rfl⟩, nm "abs" _ (by simp [bNames]) b10 (by decide)⟩
  | max => exact ⟨_, sndc_max (hc rfl), .inl ⟨_, rfl⟩, nm "max" _ (by simp [bNames]) b11 (by decide)⟩
  | min => exact ⟨_, sndc_min (hc rfl), .inl ⟨_, rfl⟩, nm "min" _ (by simp [bNames]) b12 (by decide)⟩
  | sum => exact ⟨_, sndc_sum hK (hc rfl), .inl ⟨_, rfl⟩, nm "sum" _ (by simp [bNames]) b13 (by decide)⟩
  | all => exact ⟨_, sndc_all (hc rfl), .inl ⟨_, rfl⟩, nm "all" _ (by simp [bNames]) b14 (by decide)⟩
  | any => exact ⟨_, sndc_any (hc rfl), .inl ⟨_, rfl⟩, nm "any" _ (by simp [bNames]) b15 (by decide)⟩
  | tuple => exact ⟨_, sndc_tuple hK, .inr ⟨_, rfl⟩, nm "tuple" _ (by simp [bNames]) b4 (by decide)⟩
  | list => exact ⟨_, sndc_list hK, .inr ⟨_, rfl⟩, nm "list" _ (by simp [bNames]) b5 (by decide)⟩
  | divmod => exact ⟨_, sndc_divmod, .inl ⟨_, rfl⟩, nm "divmod" _ (by simp [bNames]) b16 (by decide)⟩
end
end Tp
end
section
set_option Elab.async false
set_option linter.all false
set_option maxRecDepth 100000
set_option maxHeartbeats 1000000

namespace Tp
open PySem PySem.Spec PyProof.Rows L2


theorem starEach_plain {e : Expr} {es : List Expr} {env : Env} (h : isStar e = false) : starEach (e :: es) env = (false, eval e env) :: starEach es env := by
  cases e <;> first | rfl | (simp [isStar] at h)
theorem starEach_any {env : Env} : ∀ {es : List Expr}, plainArgs es = true → (starEach es env).any (·.1) = false
  | [], _ => rfl
  | e :: r, h => by
    unfold plainArgs at h
    simp only [List.any_cons, Bool.not_or, Bool.and_eq_true, Bool.not_eq_true'] at h
    rw [starEach_plain h.1]
    show (false || (starEach r env).any (·.1)) = false
    rw [starEach_any (es := r) (by unfold plainArgs; rw [h.2]; rfl)]
    rfl
theorem backTo_any {pos : Pos} : ∀ (l : List (Bool × Sem Value)), (backTo pos l).any (·.1) = l.any (·.1)
  | [] => rfl
  | x :: l => by
    show (x.1 || (backTo pos l).any (·.1)) = (x.1 || l.any (·.1))
    rw [backTo_any l]
theorem plainArgs_cons {e : Expr} {r : List Expr} (h : plainArgs (e :: r) = true) : isStar e = false ∧ plainArgs r = true := by
  unfold plainArgs at h ⊢
  simp only [List.any_cons, Bool.not_or, Bool.and_eq_true, Bool.not_eq_true'] at h ⊢
  exact h
theorem hs_of {e : Expr} {es : List Expr} {env : Env} (h : plainArgs (e :: es) = true) : starEach (e :: es) env = (false, eval e env) :: starEach es env := starEach_plain (plainArgs_cons h).1
theorem hpl_of {e : Expr} {es : List Expr} {env : Env} {pos : Pos} (h : plainArgs (e :: es) = true) : (backTo pos (starEach es env)).any (·.1) = false := by
  rw [backTo_any]
  exact starEach_any (plainArgs_cons h).2
theorem attrBase {o : Expr} {f : Str} {env : Env} {whole : Sem Value} (h : noSuper o = true) : attributeBase o f env whole = whole := by
  unfold attributeBase
  split
  · rename_i id p pos
    have h' : (id == ("super" : Str)) = false := by simpa [noSuper] using h
    have e : (id != ("super" : Str)) = true := by
      show (!(id == ("super" : Str))) = true
      rw [h']; rfl
    rw [e]
    simp
  · rfl
theorem foldedNo {e : Expr} {env : Env} (h : noSet e = true) : ∀ x, foldedSetIterable e env x = pure x := by
  intro x
  cases e <;> first | rfl | (simp [noSet] at h)
theorem behindNo {op : CmpOp} {e : Expr} (h : noSet e = true) : behindInMarks op e = false := by
  cases e <;> first | rfl | (simp [noSet] at h)


section
variable {R : Rx} {X : Cx} {W : WX}
theorem aa_args (hK : X.K = R.K) {f : Expr → DE} : ∀ {es : List Expr}, (∀ e, e ∈ es → isStar e = false → AE R X W e (f e)) → (∀ e p, Expr.Starred e p ∈ es → AE R X W e (f e)) → AA R X W es (evArgs f es)
  | [], _, _ => aa_nil
  | e :: r, h, hs => by
    have ih := aa_args hK (f := f) (es := r) (fun e he => h e (List.mem_cons_of_mem _ he)) (fun e p he => hs e p (List.mem_cons_of_mem _ he))
    by_cases q : isStar e = true
    · cases e <;> first | (simp [isStar] at q; done) | skip
      rename_i e0 p
      exact aa_star hK (hs e0 p List.mem_cons_self) ih
    · have q' : isStar e = false := by simpa using q
      have e0 : evArgs f (e :: r) = aCons (f e) (evArgs f r) := by cases e <;> first | rfl | (simp [isStar] at q')
      rw [e0]
      exact aa_cons (h e List.mem_cons_self q') ih (starEach_plain q')

theorem ae_builtin (F : Facts R X.mg) (hK : X.K = R.K) (hx : ExPin R X) {x : Str} {b : BF} (hb : bfOf.lookup x = some b) (hn : R.G.names.lookup x = none) (hc : b.calm = true → X.calm = true) (hg : Gl X x) (hd : notDebug x = true) {es : List Expr} {a : DA} (he : es ≠ []) (hp : plainArgs es = true) (ha : AA R X W es a) {p0 pos : Pos} :
    AE R X W (.Call (.Name x p0) es [] pos) (eBlt R.G b a) := by
  obtain ⟨f, s, hf, hnm⟩ := sndc_builtin F hK hx b hc
  obtain ⟨h1, h2⟩ := hnm x hb
  obtain ⟨d1, d2, d3⟩ := notDebug_ok hd
  have hm := F.bnone x h1 hn
  rcases hf with ⟨n, rfl⟩ | ⟨n, rfl⟩
  · exact ae_callB s hg hm h2 he ha d3 d1 (fun e r z => by subst z; exact hs_of hp) (fun e r z => by subst z; exact hpl_of hp)
  · exact ae_callTy s hg hm h2 he ha d3 d1 (fun e r z => by subst z; exact hs_of hp) (fun e r z => by subst z; exact hpl_of hp)



abbrev Rx.wh (R : Rx) (hid : List Addr) : Rx := { R with hid := hid }
def HidOk (R : Rx) (H : Hp) (hid : List Addr) : Prop := ∀ a ∈ hid, a ∈ R.hid ∨ H a = none
theorem CellIs.wh {μ : List Addr} {H : Hp} {hid : List Addr} {c : Addr} {w : Option Value} (h : CellIs R μ H c w) : CellIs (R.wh hid) μ H c w := h
theorem CloAt.wh {μ : List Addr} {H : Hp} {hid : List Addr} {i : LamInfo} {f : Addr} {ws : List (Option V)} (h : CloAt R μ H i f ws) : CloAt (R.wh hid) μ H i f ws := h
mutual
theorem Rep.wh {μ : List Addr} {H : Hp} {hid : List Addr} (ok : HidOk R H hid) : ∀ {av : AV} {v : V}, Rep R μ H av v → Rep (R.wh hid) μ H av v
  | .non, _, h => h
  | .bl _, _, h => h
  | .int _, _, h => h
  | .str _, _, h => h
  | .tup xs, v, h => by
    obtain ⟨a, vs, e1, h1, h2⟩ := h
    exact ⟨a, vs, e1, h1, RepL.wh ok h2⟩
  | .lst xs, v, h => by
    obtain ⟨a, vs, e1, h1, n, h2⟩ := h
    refine ⟨a, vs, e1, h1, ⟨n.1, fun z => ?_⟩, RepL.wh ok h2⟩
    obtain ⟨o, q⟩ := Rd.there h1
    rcases ok a z with y | y
    · exact n.2 y
    · rw [q] at y; cases y
  | .ref n, v, h => h
  | .fn _, _, h => h
  | .cls _, _, h => h
  | .xcls _, _, h => h
  | .ty _, _, h => h
  | .exc k x, v, h => by
    obtain ⟨a, d, f, u, h1, h2, h3, h4, n, h5⟩ := h
    exact ⟨a, d, f, u, h1, h2, h3, h4, n, Rep.wh ok h5⟩
  | .obj k fs, v, h => by
    obtain ⟨a, dx, fs', e1, h1, n, k1, h2⟩ := h
    exact ⟨a, dx, fs', e1, h1, n, k1, RepF.wh ok h2⟩
  | .clo i cs, v, h => by
    obtain ⟨f, ws, e1, h1, h2⟩ := h
    exact ⟨f, ws, e1, h1, RepO.wh ok h2⟩
  | .dct _, _, h => h
theorem RepL.wh {μ : List Addr} {H : Hp} {hid : List Addr} (ok : HidOk R H hid) : ∀ {xs : List AV} {vs : List V}, RepL R μ H xs vs → RepL (R.wh hid) μ H xs vs
  | [], _, h => h
  | x :: xs, vs, h => by
    obtain ⟨v, r, e1, h1, h2⟩ := h
    exact ⟨v, r, e1, Rep.wh ok h1, RepL.wh ok h2⟩
theorem RepF.wh {μ : List Addr} {H : Hp} {hid : List Addr} (ok : HidOk R H hid) : ∀ {xs : List (Str × AV)} {vs : List (Str × V)}, RepF R μ H xs vs → RepF (R.wh hid) μ H xs vs
  | [], _, h => h
  | (f, x) :: xs, vs, h => by
    obtain ⟨v, r, e1, h1, h2⟩ := h
    exact ⟨v, r, e1, Rep.wh ok h1, RepF.wh ok h2⟩
theorem RepO.wh {μ : List Addr} {H : Hp} {hid : List Addr} (ok : HidOk R H hid) : ∀ {xs : List (Option AV)} {vs : List (Option V)}, RepO R μ H xs vs → RepO (R.wh hid) μ H xs vs
  | [], _, h => h
  | none :: xs, vs, h => by
    obtain ⟨v, r, e1, h2⟩ := h
    exact ⟨v, r, e1, RepO.wh ok h2⟩
  | some x :: xs, vs, h => by
    obtain ⟨v, r, e1, h1, h2⟩ := h
    exact ⟨v, r, e1, Rep.wh ok h1, RepO.wh ok h2⟩
end
theorem ObjRep.wh {μ : List Addr} {H : Hp} {hid : List Addr} (ok : HidOk R H hid) {o : AObj} {a : Addr} (h : ObjRep R μ H o a) : ObjRep (R.wh hid) μ H o a := by
  cases o with
  | lst xs =>
    obtain ⟨vs, z, r, p⟩ := h
    exact ⟨vs, z, r.wh ok, p⟩
  | ins c fs =>
    obtain ⟨dx, ws, z, k, r, p⟩ := h
    exact ⟨dx, ws, z, k, r.wh ok, p⟩
  | dct kvs => exact h
theorem SRel.wh {μ : List Addr} {env : AEnv} {H : Hp} {σ : L2.St} {hid : List Addr} (S : SRel R μ env H σ) (ok : HidOk R H hid) : SRel (R.wh hid) μ env H σ := ⟨S.len, fun i av q => let ⟨v, h1, h2⟩ := S.slot i av q; ⟨v, h1, h2.wh ok⟩⟩



structure ItemsAt (R : Rx) (J : It) (xs : List AV) (μ : List Addr) (H : Hp) : Prop where
  goes : ∀ μ1 H1 i, Ev μ H μ1 H1 → i < xs.length → J.go i H1
  stops : ∀ μ1 H1, Ev μ H μ1 H1 → J.stop xs.length H1
  yields : ∀ μ1 H1 h1 i x H2, Ev μ H μ1 H1 → HRel R μ1 h1 H1 → i < xs.length → J.yld i H1 x H2 → Ev μ1 H1 μ1 H2 ∧ HRel R μ1 h1 H2 ∧ ∀ xi, xs[i]? = some xi → Rep R μ1 H2 xi x
def WalksOf (R : Rx) (src : Src) (J : It) (μ : List Addr) (H : Hp) : Prop := match src with
  | .items xs => ∀ hid, HidOk R H hid → ItemsAt (R.wh hid) J xs μ H
  | .live n => ∃ a, μ[n]? = some a ∧ J = Itl R.K a
def PostI (R : Rx) (W : WX) (σ : L2.St) (μ : List Addr) (H : Hp) (r : Res Src) (Rk : It → Hp → Prop) : Prop := match r with
  | .ok src h' => ∀ μ' H' J, Ev μ H μ' H' → HRel R μ' h' H' → WalksOf R src J μ' H' → Rk J H'
  | .exc c x h' => PostX R W σ μ H c x h'
  | .stuck => False
def rdI (R : Rx) (W : WX) (m : DI) : TI := fun σ H Rk => ∃ μ env h, SRel R μ env H σ ∧ HRel R μ h H ∧ PostI R W σ μ H (m env h) Rk
theorem _root_.L2.PI.imp {X : Cx} {tg e : Expr} {t t' : TI} (h : PI X tg e t) (i : ∀ σ H Q, t' σ H Q → t σ H Q) : PI X tg e t' := ⟨fun pins s σ H Q I q => h.run pins s σ H Q I (i σ H Q q)⟩
abbrev AI (R : Rx) (X : Cx) (W : WX) (tg e : Expr) (m : DI) : Prop := PI X tg e (rdI R W m)
theorem ai_fail {tg e : Expr} : AI R X W tg e (fun _ => fail) := ⟨fun pins s σ H Q I ⟨_, _, _, _, _, p⟩ => p.elim⟩
theorem PostI.ev {σ : L2.St} {μ μ1 : List Addr} {H H1 : Hp} {r : Res Src} {Rk : It → Hp → Prop} (p : PostI R W σ μ H r Rk) (e : Ev μ H μ1 H1) : PostI R W σ μ1 H1 r Rk := by
  cases r with
  | ok a h => exact fun μ' H' v e' => p μ' H' v (e.trans e')
  | exc c x h => exact fun μ' H' cls d e' => p μ' H' cls d (e.trans e')
  | stuck => exact p
theorem rdE_bindI {σ : L2.St} {m : DE} {k : AV → M Src} {μ : List Addr} {env : AEnv} {h : AHp} {H : Hp} {Rk : It → Hp → Prop} {Q' : VK} (S : SRel R μ env H σ) (hr : HRel R μ h H) (p : PostI R W σ μ H (bind (m env) k h) Rk)
    (hk : ∀ av h1 μ' H' v, Ev μ H μ' H' → SRel R μ' env H' σ → HRel R μ' h1 H' → Rep R μ' H' av v → PostI R W σ μ' H' (k av h1) Rk → Q' v H') : rdE R W m σ H Q' := by
  refine rdE_first S hr (fun av h1 e μ' H' v ev s' r' rv => ?_) (fun c x h1 e => ?_) fun e => ?_
  · rw [bind_ok e] at p
    exact hk av h1 μ' H' v ev s' r' rv (p.ev ev)
  · rw [bind_exc e] at p
    exact p
  · rw [bind_stuck e] at p
    exact p
theorem rdA_bindI {σ : L2.St} {m : DA} {k : List AV → M Src} {μ : List Addr} {env : AEnv} {h : AHp} {H : Hp} {Rk : It → Hp → Prop} {Q' : List V → Hp → Prop} (S : SRel R μ env H σ) (hr : HRel R μ h H) (p : PostI R W σ μ H (bind (m env) k h) Rk)
    (hk : ∀ avs h1 μ' H' vs, Ev μ H μ' H' → SRel R μ' env H' σ → HRel R μ' h1 H' → RepL R μ' H' avs vs → PostI R W σ μ' H' (k avs h1) Rk → Q' vs H') : rdA R W m σ H Q' := by
  refine rdA_first S hr (fun av h1 e μ' H' v ev s' r' rv => ?_) (fun c x h1 e => ?_) fun e => ?_
  · rw [bind_ok e] at p
    exact hk av h1 μ' H' v ev s' r' rv (p.ev ev)
  · rw [bind_exc e] at p
    exact p
  · rw [bind_stuck e] at p
    exact p
theorem PostI.ok {σ : L2.St} {μ : List Addr} {H : Hp} {h : AHp} {src : Src} {J : It} {Rk : It → Hp → Prop} (p : PostI R W σ μ H (ret src h) Rk) (hr : HRel R μ h H) (w : WalksOf R src J μ H) : Rk J H := p μ H J (Ev.refl _ _) hr w

theorem items_lst {μ : List Addr} {H : Hp} {xs : List AV} {a : Addr} {vs : List V} (c : CellsOk μ H) (h1 : Rd H a (.lst vs)) (n : a ∉ μ) (r : RepL R μ H xs vs) : ItemsAt R (Itl R.K a) xs μ H := by
  have sq : ∀ {μ1 H1}, Ev μ H μ1 H1 → SqL R.K H1 a vs := fun e => .inl (Rd.ev h1 e n fun ps z => by cases z)
  have hl := r.length
  refine ⟨fun μ1 H1 i e hi => ?_, fun μ1 H1 e => ⟨vs, sq e, by omega⟩, fun μ1 H1 h1 i x H2 e hr hi y => ?_⟩
  · obtain ⟨v, hv, _⟩ := r.get (List.getElem?_eq_getElem hi)
    exact ⟨vs, v, sq e, hv⟩
  · obtain ⟨rfl, y⟩ := y
    refine ⟨Ev.refl _ _, hr, fun xi hxi => ?_⟩
    obtain ⟨v, hv, rv⟩ := (r.ev c e).get hxi
    have := y vs (sq e)
    rw [hv] at this
    cases this
    exact rv
theorem items_tup {μ : List Addr} {H : Hp} {xs : List AV} {a : Addr} {vs : List V} (c : CellsOk μ H) (h1 : SqT R.K H a vs) (r : RepL R μ H xs vs) : ItemsAt R (Itt R.K a) xs μ H := by
  have sq : ∀ {μ1 H1}, Ev μ H μ1 H1 → SqT R.K H1 a vs := fun e => SqT.ev h1 c e
  have hl := r.length
  refine ⟨fun μ1 H1 i e hi => ?_, fun μ1 H1 e => ⟨vs, sq e, by omega⟩, fun μ1 H1 h1 i x H2 e hr hi y => ?_⟩
  · obtain ⟨v, hv, _⟩ := r.get (List.getElem?_eq_getElem hi)
    exact ⟨vs, v, sq e, hv⟩
  · obtain ⟨rfl, y⟩ := y
    refine ⟨Ev.refl _ _, hr, fun xi hxi => ?_⟩
    obtain ⟨v, hv, rv⟩ := (r.ev c e).get hxi
    have := y vs (sq e)
    rw [hv] at this
    cases this
    exact rv
theorem items_str {μ : List Addr} {H : Hp} {s : List Nat} : ItemsAt R (Its ⟨s.toArray⟩) (s.map fun c => .str [c]) μ H := by
  refine ⟨fun μ1 H1 i e hi => ?_, fun μ1 H1 e => ?_, fun μ1 H1 h1 i x H2 e hr hi y => ?_⟩
  · show i < s.toArray.size
    simpa using hi
  · show s.toArray.size ≤ _
    simp
  · obtain ⟨rfl, c, hc, rfl⟩ := y
    refine ⟨Ev.refl _ _, hr, fun xi hxi => ?_⟩
    have hc' : s[i]? = some c := by simpa using hc
    rw [List.getElem?_map, hc'] at hxi
    cases hxi
    rfl
theorem ai_val (hK : X.K = R.K) {tg e : Expr} {m : DE} (he : AE R X W e m) : AI R X W tg e (iVal m) := by
  refine (pi_seq he).imp fun σ H Rk ⟨μ, env, h, S, hr, p⟩ => ?_
  refine rdE_bindI S hr p fun av h1 μ1 H1 v ev S1 hr1 rv p => ?_
  rw [hK]
  cases av with
  | tup xs =>
    obtain ⟨a, vs, rfl, h2, h3⟩ := rv
    exact .inr (.inl ⟨a, rfl, ⟨vs, h2⟩, p.ok hr1 fun hid hh => items_tup hr1.cells h2 (h3.wh hh)⟩)
  | lst xs =>
    obtain ⟨a, vs, rfl, h2, n, h3⟩ := rv
    exact .inl ⟨a, rfl, ⟨vs, .inl h2⟩, p.ok hr1 fun hid hh => items_lst hr1.cells h2 n.1 (h3.wh hh)⟩
  | str s => exact .inr (.inr ⟨_, rv, p.ok hr1 fun hid hh => items_str⟩)
  | ref n =>
    cases e : lstOf (.ref n) h1 with
    | stuck =>
      have p' : PostI R W σ μ1 H1 (bind (lstOf (.ref n)) (fun _ => ret (.live n)) h1) Rk := p
      rw [bind_stuck e] at p'; exact p'.elim
    | exc c x h2 => exact (lstOf_no e).elim
    | ok xs h2 =>
      have p' : PostI R W σ μ1 H1 (bind (lstOf (.ref n)) (fun _ => ret (.live n)) h1) Rk := p
      rw [bind_ok e] at p'
      obtain ⟨rfl, a, vs, e1, h2, h3⟩ := lstOf_ok hr1 rv e
      obtain ⟨a', ha, e2⟩ := rv
      rw [e1] at e2
      cases e2
      exact .inl ⟨a, e1, ⟨vs, .inl h2⟩, p'.ok hr1 ⟨a, ha, rfl⟩⟩
  | _ => exact p.elim
theorem items_range {μ : List Addr} {H : Hp} {lo : Int} {n : Nat} : ItemsAt R (Itr lo n) (rangeL lo n) μ H := by
  have hl : (rangeL lo n).length = n := by simp [rangeL]
  refine ⟨fun μ1 H1 i e hi => ?_, fun μ1 H1 e => ?_, fun μ1 H1 h1 i x H2 e hr hi y => ?_⟩
  · show i < n
    omega
  · show n ≤ _
    omega
  · obtain ⟨rfl, rfl⟩ := y
    refine ⟨Ev.refl _ _, hr, fun xi hxi => ?_⟩
    have hi' : i < n := by omega
    simp [rangeL, hi'] at hxi
    subst hxi
    rfl
theorem items_rangeC {μ : List Addr} {H : Hp} {lo c : Int} {n : Nat} : ItemsAt R (Itc lo c n) (rangeC lo c n) μ H := by
  have hl : (rangeC lo c n).length = n := by simp [rangeC]
  refine ⟨fun μ1 H1 i e hi => ?_, fun μ1 H1 e => ?_, fun μ1 H1 h1 i x H2 e hr hi y => ?_⟩
  · show i < n
    omega
  · show n ≤ _
    omega
  · obtain ⟨rfl, rfl⟩ := y
    refine ⟨Ev.refl _ _, hr, fun xi hxi => ?_⟩
    have hi' : i < n := by omega
    simp [rangeC, hi'] at hxi
    subst hxi
    rfl
theorem PostI.iteP {σ : L2.St} {μ : List Addr} {H : Hp} {h : AHp} {Rk : It → Hp → Prop} {c : Prop} [Decidable c] {m : M Src} (p : PostI R W σ μ H ((if c then m else fail) h) Rk) : c ∧ PostI R W σ μ H (m h) Rk := by
  by_cases e : c
  · rw [if_pos e] at p; exact ⟨e, p⟩
  · rw [if_neg e] at p; exact p.elim
theorem small62_ok {i : Int} (h : small62 i = true) : -(2 ^ 62) ≤ i ∧ i < 2 ^ 62 := by
  unfold small62 at h
  obtain ⟨a, b⟩ := Bool.and_eq_true_iff.mp h
  exact ⟨of_decide_eq_true a, of_decide_eq_true b⟩
theorem RepL.three {μ : List Addr} {H : Hp} {x y z : AV} {vs : List V} (h : RepL R μ H [x, y, z] vs) : ∃ v w u, vs = [v, w, u] ∧ Rep R μ H x v ∧ Rep R μ H y w ∧ Rep R μ H z u := by
  obtain ⟨v, r, rfl, h1, h2⟩ := h
  obtain ⟨w, u, rfl, h3, h4⟩ := RepL.two h2
  exact ⟨v, w, u, rfl, h1, h3, h4⟩
theorem rangeOf1 {v : AV} {h : AHp} {σ : L2.St} {μ : List Addr} {H : Hp} {Rk : It → Hp → Prop} (p : PostI R W σ μ H (rangeOf [v] h) Rk) : ∃ j, v = .int j ∧ small62 j = true ∧ PostI R W σ μ H (ret (.items (rangeL 0 j.toNat)) h) Rk := by
  cases v with
  | int j =>
    obtain ⟨c, p⟩ := (show PostI R W σ μ H ((if small62 j then ret (.items (rangeL 0 j.toNat)) else fail) h) Rk from p).iteP
    exact ⟨j, rfl, c, p⟩
  | _ => exact p.elim
theorem rangeOf2 {v w : AV} {h : AHp} {σ : L2.St} {μ : List Addr} {H : Hp} {Rk : It → Hp → Prop} (p : PostI R W σ μ H (rangeOf [v, w] h) Rk) : ∃ i j, v = .int i ∧ w = .int j ∧ small62 i = true ∧ small62 j = true ∧ PostI R W σ μ H (ret (.items (rangeL i (j - i).toNat)) h) Rk := by
  cases v with
  | int i =>
    cases w with
    | int j =>
      obtain ⟨c, p⟩ := (show PostI R W σ μ H ((if small62 i && small62 j then ret (.items (rangeL i (j - i).toNat)) else fail) h) Rk from p).iteP
      obtain ⟨c1, c2⟩ := Bool.and_eq_true_iff.mp c
      exact ⟨i, j, rfl, rfl, c1, c2, p⟩
    | _ => exact p.elim
  | _ => exact p.elim
theorem rangeOf3 {v w u : AV} {h : AHp} {σ : L2.St} {μ : List Addr} {H : Hp} {Rk : It → Hp → Prop} (p : PostI R W σ μ H (rangeOf [v, w, u] h) Rk) :
    ∃ i j c, v = .int i ∧ w = .int j ∧ u = .int c ∧ 0 < c ∧ c < 1073741824 ∧ small62 i = true ∧ small62 j = true ∧ PostI R W σ μ H (ret (.items (rangeC i c ((j - i + c - 1) / c).toNat)) h) Rk := by
  cases v with
  | int i =>
    cases w with
    | int j =>
      cases u with
      | int c =>
        obtain ⟨q, p⟩ := (show PostI R W σ μ H ((if (decide (0 < c) && decide (c < 1073741824)) && (small62 i && small62 j) then ret (.items (rangeC i c ((j - i + c - 1) / c).toNat)) else fail) h) Rk from p).iteP
        obtain ⟨q1, q2⟩ := Bool.and_eq_true_iff.mp q
        obtain ⟨q3, q4⟩ := Bool.and_eq_true_iff.mp q1
        obtain ⟨q5, q6⟩ := Bool.and_eq_true_iff.mp q2
        exact ⟨i, j, c, rfl, rfl, rfl, of_decide_eq_true q3, of_decide_eq_true q4, q5, q6, p⟩
      | _ => exact p.elim
    | _ => exact p.elim
  | _ => exact p.elim
section
variable {tg e e2 e3 : Expr} {m m2 m3 : DE} {p0 pos : Pos}
theorem ai_range1 (F : Facts R X.mg) (hn : R.G.names.lookup ("range" : Str) = none) (hg : Gl X "range") (hp : isStar e = false) (he : AE R X W e m) : AI R X W tg (.Call (.Name "range" p0) [e] [] pos) (iRange1 m) := by
  refine (pi_range1 hg (F.bnone _ (by simp [bNames]) hn) (pa_cons he pa_nil (starEach_plain hp)) (starEach_plain hp)).imp fun σ H Rk ⟨μ, env, h, S, hr, p⟩ => ?_
  refine rdE_bindI S hr p fun av h1 μ1 H1 v ev S1 hr1 rv p => ?_
  obtain ⟨j, rfl, c, p⟩ := rangeOf1 p
  obtain ⟨s1, s2⟩ := small62_ok c
  exact ⟨j, by rw [show v = _ from rv], s1, s2, p.ok hr1 fun hid hh => items_range⟩
theorem ai_range2 (F : Facts R X.mg) (hn : R.G.names.lookup ("range" : Str) = none) (hg : Gl X "range") (hp : isStar e = false) (hp2 : isStar e2 = false) (he : AE R X W e m) (he2 : AE R X W e2 m2) : AI R X W tg (.Call (.Name "range" p0) [e, e2] [] pos) (iRange2 m m2) := by
  refine (pi_range2 hg (F.bnone _ (by simp [bNames]) hn) (pa_cons he (pa_cons he2 pa_nil (starEach_plain hp2)) (starEach_plain hp)) ((starEach_plain hp).trans (by rw [starEach_plain hp2] <;> rfl)) (starEach_plain hp2)).imp fun σ H Rk ⟨μ, env, h, S, hr, p⟩ => ?_
  refine rdE_bindI S hr p fun av h1 μ1 H1 v ev S1 hr1 rv p => ?_
  refine rdE_bindI S1 hr1 p fun bv h2 μ2 H2 w ev2 S2 hr2 rw' p => ?_
  obtain ⟨i, j, rfl, rfl, c1, c2, p⟩ := rangeOf2 p
  obtain ⟨s1, s2⟩ := small62_ok c1
  obtain ⟨s3, s4⟩ := small62_ok c2
  exact ⟨i, j, by rw [show v = _ from rv, show w = _ from rw'], ⟨s1, s2, s3, s4⟩, p.ok hr2 fun hid hh => items_range⟩
theorem rgC {i j c : Int} (c0 : 0 < c) (c1 : c < 1073741824) (i1 : -(2 ^ 62) ≤ i) (i2 : i < 2 ^ 62) (j1 : -(2 ^ 62) ≤ j) (j2 : j < 2 ^ 62) : RgC i j c ((j - i + c - 1) / c).toNat := by
  have hs : Builtin.Range.rangeSize i j c = ((j - i + c - 1) / c).toNat := by
    unfold Builtin.Range.rangeSize
    rw [if_pos c0]
    by_cases h : i < j
    · rw [if_pos h]
      have e1 : j - i + c - 1 = (j - i - 1) + 1 * c := by omega
      have e2 : (j - i + c - 1) / c = (j - i - 1) / c + 1 := by rw [e1, Int.add_mul_ediv_right _ _ (by omega)]
      have e3 : 0 ≤ (j - i - 1) / c := Int.ediv_nonneg (by omega) (by omega)
      rw [e2]
      omega
    · rw [if_neg h]
      have e1 : (j - i + c - 1) / c ≤ 0 := by
        have : (j - i + c - 1) / c < 1 := Int.ediv_lt_of_lt_mul c0 (by omega)
        omega
      omega
  refine ⟨by omega, by omega, ?_, hs⟩
  have hb : Builtin.Range.rangeSize i j c ≤ 2 ^ 63 - 1 ∧ 0 ≤ Builtin.Range.rangeSize i j c := by
    unfold Builtin.Range.rangeSize
    rw [if_pos c0]
    split
    · have h3 : (j - i - 1) / c ≤ j - i - 1 := Int.ediv_le_self _ (by omega)
      have h4 : 0 ≤ (j - i - 1) / c := Int.ediv_nonneg (by omega) (by omega)
      omega
    · omega
  unfold Builtin.Range.small
  generalize Builtin.Range.rangeSize i j c = z at hb
  simp only [Builtin.Range.rangeFitsLong, Bool.and_eq_true, Bool.or_eq_true, decide_eq_true_eq, beq_iff_eq, show (c : Int) > 0 from c0, if_true]
  omega
theorem ai_range3 (F : Facts R X.mg) (hn : R.G.names.lookup ("range" : Str) = none) (hg : Gl X "range") (hp : isStar e = false) (hp2 : isStar e2 = false) (hp3 : isStar e3 = false) (he : AE R X W e m) (he2 : AE R X W e2 m2) (he3 : AE R X W e3 m3) :
    AI R X W tg (.Call (.Name "range" p0) [e, e2, e3] [] pos) (iRange3 m m2 m3) := by
  refine (pi_range3 hg (F.bnone _ (by simp [bNames]) hn) (pa_cons he (pa_cons he2 (pa_cons he3 pa_nil (starEach_plain hp3)) (starEach_plain hp2)) (starEach_plain hp)) (starEach_plain hp)
    (by rw [backTo_any, starEach_plain hp2, starEach_plain hp3] <;> rfl)).imp fun σ H Rk ⟨μ, env, h, S, hr, p⟩ => ?_
  refine rdE_bindI S hr p fun av h1 μ1 H1 v ev S1 hr1 rv p => ?_
  refine rdE_bindI S1 hr1 p fun bv h2 μ2 H2 w ev2 S2 hr2 rw' p => ?_
  refine rdE_bindI S2 hr2 p fun cv h3 μ3 H3 u ev3 S3 hr3 ru p => ?_
  obtain ⟨i, j, c, rfl, rfl, rfl, c0, c1, c2, c3, p⟩ := rangeOf3 p
  obtain ⟨s1, s2⟩ := small62_ok c2
  obtain ⟨s3, s4⟩ := small62_ok c3
  exact ⟨i, j, c, _, by rw [show v = _ from rv, show w = _ from rw', show u = _ from ru], rgC c0 c1 s1 s2 s3 s4, p.ok hr3 fun hid hh => items_rangeC⟩


theorem pair_new {μ : List Addr} {H : Hp} {h : AHp} {T : Addr} {x y : AV} {v w : V} (hr : HRel R μ h H) (hT : H T = none) (rx : Rep R μ H x v) (ry : Rep R μ H y w) :
    Ev μ H μ (upd H T (.tup [v, w])) ∧ HRel R μ h (upd H T (.tup [v, w])) ∧ Rep R μ (upd H T (.tup [v, w])) (.tup [x, y]) (.ref T) :=
  ⟨Ev.new hT, hr.new hT, T, [v, w], rfl, .of upd_same, v, [w], rfl, rx.ev hr.cells (Ev.new hT), w, [], rfl, ry.ev hr.cells (Ev.new hT), rfl⟩
theorem enumL_get {xs : List AV} {i : Nat} {xi : AV} (h : (enumL xs)[i]? = some xi) : ∃ x, xs[i]? = some x ∧ xi = .tup [.int (i : Nat), x] := by
  unfold enumL at h
  rw [List.getElem?_zipWith] at h
  cases q : xs[i]? with
  | none => rw [q] at h; simp at h
  | some x =>
    have hi : i < xs.length := (List.getElem?_eq_some_iff.mp q).1
    rw [q] at h
    simp [hi] at h
    exact ⟨x, rfl, h.symm⟩
theorem enumL_len (xs : List AV) : (enumL xs).length = xs.length := by simp [enumL]
theorem items_enumL {μ : List Addr} {H : Hp} {xs : List AV} {a : Addr} {vs : List V} (c : CellsOk μ H) (h1 : Rd H a (.lst vs)) (n : a ∉ μ) (r : RepL R μ H xs vs) : ItemsAt R (Ite R.K a) (enumL xs) μ H := by
  have sq : ∀ {μ1 H1}, Ev μ H μ1 H1 → SqL R.K H1 a vs := fun e => .inl (Rd.ev h1 e n fun ps z => by cases z)
  have hl := r.length
  have hle := enumL_len xs
  refine ⟨fun μ1 H1 i e hi => ?_, fun μ1 H1 e => ⟨vs, sq e, by omega⟩, fun μ1 H1 h1 i x H2 e hr hi y => ?_⟩
  · obtain ⟨v, hv, _⟩ := r.get (List.getElem?_eq_getElem (by omega : i < xs.length))
    exact ⟨vs, v, sq e, hv⟩
  · obtain ⟨T, u, rfl, hT, rfl, y⟩ := y
    obtain ⟨v, hv, rv⟩ := (r.ev c e).get (List.getElem?_eq_getElem (by omega : i < xs.length))
    have hu := y vs (sq e)
    rw [hv] at hu
    cases hu
    obtain ⟨p1, p2, p3⟩ := pair_new (x := .int (i : Nat)) hr hT (show Rep R μ1 H1 (.int (i : Nat)) (.int (i : Nat)) from rfl) rv
    refine ⟨p1, p2, fun xi hxi => ?_⟩
    obtain ⟨x', h1', rfl⟩ := enumL_get hxi
    rw [List.getElem?_eq_getElem (by omega : i < xs.length)] at h1'
    cases h1'
    exact p3
theorem items_enumT {μ : List Addr} {H : Hp} {xs : List AV} {a : Addr} {vs : List V} (c : CellsOk μ H) (h1 : SqT R.K H a vs) (r : RepL R μ H xs vs) : ItemsAt R (IteT R.K a) (enumL xs) μ H := by
  have sq : ∀ {μ1 H1}, Ev μ H μ1 H1 → SqT R.K H1 a vs := fun e => SqT.ev h1 c e
  have hl := r.length
  have hle := enumL_len xs
  refine ⟨fun μ1 H1 i e hi => ?_, fun μ1 H1 e => ⟨vs, sq e, by omega⟩, fun μ1 H1 h1 i x H2 e hr hi y => ?_⟩
  · obtain ⟨v, hv, _⟩ := r.get (List.getElem?_eq_getElem (by omega : i < xs.length))
    exact ⟨vs, v, sq e, hv⟩
  · obtain ⟨T, u, rfl, hT, rfl, y⟩ := y
    obtain ⟨v, hv, rv⟩ := (r.ev c e).get (List.getElem?_eq_getElem (by omega : i < xs.length))
    have hu := y vs (sq e)
    rw [hv] at hu
    cases hu
    obtain ⟨p1, p2, p3⟩ := pair_new (x := .int (i : Nat)) hr hT (show Rep R μ1 H1 (.int (i : Nat)) (.int (i : Nat)) from rfl) rv
    refine ⟨p1, p2, fun xi hxi => ?_⟩
    obtain ⟨x', h1', rfl⟩ := enumL_get hxi
    rw [List.getElem?_eq_getElem (by omega : i < xs.length)] at h1'
    cases h1'
    exact p3
theorem ai_enum (hK : X.K = R.K) (F : Facts R X.mg) (hn : R.G.names.lookup ("enumerate" : Str) = none) (hg : Gl X "enumerate") (hp : isStar e = false) (ht : isTupE tg = true) (he : AE R X W e m) : AI R X W tg (.Call (.Name "enumerate" p0) [e] [] pos) (iEnum m) := by
  cases tg <;> first | (simp [isTupE] at ht; done) | skip
  refine (pi_enumA hg (F.bnone _ (by simp [bNames]) hn) (pa_cons he pa_nil (starEach_plain hp)) (starEach_plain hp)).imp fun σ H Rk ⟨μ, env, h, S, hr, p⟩ => ?_
  refine rdE_bindI S hr p fun av h1 μ1 H1 v ev S1 hr1 rv p => ?_
  rw [hK]
  cases av with
  | tup xs =>
    obtain ⟨a, vs, rfl, h2, h3⟩ := rv
    exact ⟨a, rfl, .inr ⟨vs, h2, PostI.ok p hr1 fun hid hh => items_enumT hr1.cells h2 (h3.wh hh)⟩⟩
  | lst xs =>
    obtain ⟨a, vs, rfl, h2, n, h3⟩ := rv
    exact ⟨a, rfl, .inl ⟨vs, .inl h2, PostI.ok p hr1 fun hid hh => items_enumL hr1.cells h2 n.1 (h3.wh hh)⟩⟩
  | _ => exact p.elim
theorem zipL_get {xs ys : List AV} {i : Nat} {xi : AV} (h : (zipL xs ys)[i]? = some xi) : ∃ x y, xs[i]? = some x ∧ ys[i]? = some y ∧ xi = .tup [x, y] := by
  unfold zipL at h
  rw [List.getElem?_zipWith] at h
  cases q : xs[i]? with
  | none => rw [q] at h; simp at h
  | some x =>
    cases q2 : ys[i]? with
    | none => rw [q, q2] at h; simp at h
    | some y =>
      rw [q, q2] at h
      simp at h
      exact ⟨x, y, rfl, rfl, h.symm⟩
theorem zipL_len (xs ys : List AV) : (zipL xs ys).length = min xs.length ys.length := by simp [zipL]
theorem items_zipL {μ : List Addr} {H : Hp} {xs ys : List AV} {a b : Addr} {vs ws : List V} (c : CellsOk μ H) (h1 : Rd H a (.lst vs)) (n : a ∉ μ) (r : RepL R μ H xs vs) (h2 : Rd H b (.lst ws)) (n2 : b ∉ μ) (r2 : RepL R μ H ys ws) : ItemsAt R (Itz R.K a b) (zipL xs ys) μ H := by
  have sq : ∀ {μ1 H1}, Ev μ H μ1 H1 → SqL R.K H1 a vs := fun e => .inl (Rd.ev h1 e n fun ps z => by cases z)
  have sq2 : ∀ {μ1 H1}, Ev μ H μ1 H1 → SqL R.K H1 b ws := fun e => .inl (Rd.ev h2 e n2 fun ps z => by cases z)
  have hl := r.length
  have hl2 := r2.length
  have hle := zipL_len xs ys
  refine ⟨fun μ1 H1 i e hi => ?_, fun μ1 H1 e => ⟨vs, ws, sq e, sq2 e, by omega⟩, fun μ1 H1 h1 i x H2 e hr hi y => ?_⟩
  · obtain ⟨v, hv, _⟩ := r.get (List.getElem?_eq_getElem (by omega : i < xs.length))
    obtain ⟨w, hw, _⟩ := r2.get (List.getElem?_eq_getElem (by omega : i < ys.length))
    exact ⟨vs, ws, v, w, sq e, sq2 e, hv, hw⟩
  · obtain ⟨T, u, u', rfl, hT, rfl, y, y'⟩ := y
    obtain ⟨v, hv, rv⟩ := (r.ev c e).get (List.getElem?_eq_getElem (by omega : i < xs.length))
    obtain ⟨w, hw, rw'⟩ := (r2.ev c e).get (List.getElem?_eq_getElem (by omega : i < ys.length))
    have hu := y vs (sq e)
    have hu' := y' ws (sq2 e)
    rw [hv] at hu
    rw [hw] at hu'
    cases hu
    cases hu'
    obtain ⟨p1, p2, p3⟩ := pair_new hr hT rv rw'
    refine ⟨p1, p2, fun xi hxi => ?_⟩
    obtain ⟨x', y2, h1', h2', rfl⟩ := zipL_get hxi
    rw [List.getElem?_eq_getElem (by omega : i < xs.length)] at h1'
    rw [List.getElem?_eq_getElem (by omega : i < ys.length)] at h2'
    cases h1'
    cases h2'
    exact p3
theorem items_zipT {μ : List Addr} {H : Hp} {xs ys : List AV} {a b : Addr} {vs ws : List V} (c : CellsOk μ H) (h1 : SqT R.K H a vs) (r : RepL R μ H xs vs) (h2 : SqT R.K H b ws) (r2 : RepL R μ H ys ws) : ItemsAt R (RZ.ItzT R.K a b) (zipL xs ys) μ H := by
  have sq : ∀ {μ1 H1}, Ev μ H μ1 H1 → SqT R.K H1 a vs := fun e => SqT.ev h1 c e
  have sq2 : ∀ {μ1 H1}, Ev μ H μ1 H1 → SqT R.K H1 b ws := fun e => SqT.ev h2 c e
  have hl := r.length
  have hl2 := r2.length
  have hle := zipL_len xs ys
  refine ⟨fun μ1 H1 i e hi => ?_, fun μ1 H1 e => ⟨vs, ws, sq e, sq2 e, by omega⟩, fun μ1 H1 h1 i x H2 e hr hi y => ?_⟩
  · obtain ⟨v, hv, _⟩ := r.get (List.getElem?_eq_getElem (by omega : i < xs.length))
    obtain ⟨w, hw, _⟩ := r2.get (List.getElem?_eq_getElem (by omega : i < ys.length))
    exact ⟨vs, ws, v, w, sq e, sq2 e, hv, hw⟩
  · obtain ⟨T, u, u', rfl, hT, rfl, y, y'⟩ := y
    obtain ⟨v, hv, rv⟩ := (r.ev c e).get (List.getElem?_eq_getElem (by omega : i < xs.length))
    obtain ⟨w, hw, rw'⟩ := (r2.ev c e).get (List.getElem?_eq_getElem (by omega : i < ys.length))
    have hu := y vs (sq e)
    have hu' := y' ws (sq2 e)
    rw [hv] at hu
    rw [hw] at hu'
    cases hu
    cases hu'
    obtain ⟨p1, p2, p3⟩ := pair_new hr hT rv rw'
    refine ⟨p1, p2, fun xi hxi => ?_⟩
    obtain ⟨x', y2, h1', h2', rfl⟩ := zipL_get hxi
    rw [List.getElem?_eq_getElem (by omega : i < xs.length)] at h1'
    rw [List.getElem?_eq_getElem (by omega : i < ys.length)] at h2'
    cases h1'
    cases h2'
    exact p3
theorem ai_zip (hK : X.K = R.K) (F : Facts R X.mg) (hn : R.G.names.lookup ("zip" : Str) = none) (hg : Gl X "zip") (hp : isStar e = false) (hp2 : isStar e2 = false) (ht : isTupE tg = true) (he : AE R X W e m) (he2 : AE R X W e2 m2) : AI R X W tg (.Call (.Name "zip" p0) [e, e2] [] pos) (iZip m m2) := by
  cases tg <;> first | (simp [isTupE] at ht; done) | skip
  refine (RZ.pi_zipA hg (F.bnone _ (by simp [bNames]) hn) (pa_cons he (pa_cons he2 pa_nil (starEach_plain hp2)) (starEach_plain hp)) (starEach_plain hp) (by rw [backTo_any, starEach_plain hp2] <;> rfl)).imp fun σ H Rk ⟨μ, env, h, S, hr, p⟩ => ?_
  refine rdE_bindI S hr p fun av h1 μ1 H1 v ev S1 hr1 rv p => ?_
  refine rdE_bindI S1 hr1 p fun bv h2 μ2 H2 w ev2 S2 hr2 rw' p => ?_
  have rv := rv.ev hr1.cells ev2
  rw [hK]
  cases av with
  | tup xs =>
    cases bv with
    | tup ys =>
      obtain ⟨a, vs, rfl, h2, h3⟩ := rv
      obtain ⟨b, ws, rfl, h4, h5⟩ := rw'
      exact ⟨a, b, vs, ws, rfl, .inr ⟨h2, h4, PostI.ok p hr2 fun hid hh => items_zipT hr2.cells h2 (h3.wh hh) h4 (h5.wh hh)⟩⟩
    | _ => exact p.elim
  | lst xs =>
    cases bv with
    | lst ys =>
      obtain ⟨a, vs, rfl, h2, n, h3⟩ := rv
      obtain ⟨b, ws, rfl, h4, n2, h5⟩ := rw'
      exact ⟨a, b, vs, ws, rfl, .inl ⟨.inl h2, .inl h4, PostI.ok p hr2 fun hid hh => items_zipL hr2.cells h2 n.1 (h3.wh hh) h4 n2.1 (h5.wh hh)⟩⟩
    | _ => exact p.elim
  | _ => exact p.elim
end
end
end Tp
end
section
set_option Elab.async false
set_option linter.all false
set_option maxRecDepth 100000
set_option maxHeartbeats 1000000

namespace Tp
open PySem PySem.Spec PyProof.Rows L2
section
variable {R : Rx} {X : Cx} {W : WX}

def rdG (R : Rx) (own : List Nat) (g : DG) : TG := fun v σ H Q => ∃ μ env h av env' h', SRel R μ env H σ ∧ HRel R μ h H ∧ Rep R μ H av v ∧ g av env h = some (env', h') ∧
  ∀ μ' H' σ', Ev μ H μ' H' → SRel R μ' env' H' σ' → HRel R μ' h' H' → L2.wipe σ' own = L2.wipe σ own → Q σ' H'
theorem _root_.L2.PG.imp {X : Cx} {e : Expr} {t t' : TG} (h : PG X e t) (i : ∀ v σ H Q, t' v σ H Q → t v σ H Q) : PG X e t' := ⟨fun pins s σ H v u Q I r q => h.run pins s σ H v u Q I r (i v σ H Q q)⟩
theorem _root_.L2.PG.or {X : Cx} {e : Expr} {t t' : TG} (h : PG X e t) (h' : PG X e t') : PG X e (fun v σ H Q => t v σ H Q ∨ t' v σ H Q) := ⟨fun pins s σ H v u Q I r q => q.elim (h.run pins s σ H v u Q I r) (h'.run pins s σ H v u Q I r)⟩
abbrev AG (R : Rx) (X : Cx) (own : List Nat) (e : Expr) (g : DG) : Prop := PG X e (rdG R own g)
theorem ag_fail {own : List Nat} {e : Expr} : AG R X own e gFail := ⟨fun pins s σ H v u Q I r ⟨_, _, _, _, _, _, _, _, _, e, _⟩ => by cases e⟩
theorem wipe_get (σ : L2.St) : ∀ (vs : List Nat) (j : Nat), (L2.wipe σ vs)[j]? = if j ∈ vs then (σ[j]?).map (fun _ => none) else σ[j]?
  | [], j => by simp [L2.wipe]
  | v :: vs, j => by
    have ih := wipe_get σ vs j
    unfold L2.wipe
    by_cases hj : v = j
    · subst hj
      rw [List.getElem?_set]
      simp only [if_true, List.mem_cons, true_or, L2.wipe_length]
      by_cases hl : v < σ.length
      · rw [if_pos hl, List.getElem?_eq_getElem hl]; rfl
      · rw [if_neg hl, List.getElem?_eq_none (by omega)]; rfl
    · rw [List.getElem?_set_ne hj, ih]
      have e : (j ∈ v :: vs) = (j ∈ vs) := by
        simp only [List.mem_cons, eq_iff_iff, or_iff_right_iff_imp]
        exact fun z => absurd z.symm hj
      rw [show (if j ∈ v :: vs then (σ[j]?).map (fun _ => (none : Option V)) else σ[j]?) = if j ∈ vs then (σ[j]?).map (fun _ => none) else σ[j]? from by simp only [e]]
theorem wipe_set {σ : L2.St} {own : List Nat} {i : Nat} {x : Option V} (h : i ∈ own) : L2.wipe (σ.set i x) own = L2.wipe σ own := by
  apply List.ext_getElem?
  intro j
  rw [wipe_get, wipe_get]
  by_cases hj : i = j
  · subst hj
    rw [if_pos h, if_pos h, List.getElem?_set]
    simp only [if_true]
    by_cases hl : i < σ.length
    · rw [if_pos hl, List.getElem?_eq_getElem hl]; rfl
    · rw [if_neg hl, List.getElem?_eq_none (by omega)]
  · rw [List.getElem?_set_ne hj]
theorem ag_name {own : List Nat} {i : Nat} {x : Str} {pos : Pos} (hN : X.N.Nodup) (hi : X.N[i]? = some x) (hx : Loc X.env.scope x) (hf : X.fn x = true ∨ X.env.scope.names.lookup x = some .local) (ho : i ∈ own) : AG R X own (.Name x pos) (Tp.gName i) :=
  (pg_name hN hi hx hf).imp fun v σ H Q ⟨μ, env, h, av, env', h', S, hr, rv, e, k⟩ => by
    cases e
    exact k μ H _ (Ev.refl _ _) (S.set i rv) hr (wipe_set ho)
def rdGs (R : Rx) (own : List Nat) (gs : List DG) : TGs := fun vs σ H Q => ∃ μ env h avs env' h', SRel R μ env H σ ∧ HRel R μ h H ∧ RepL R μ H avs vs ∧ gAll gs avs env h = some (env', h') ∧
  ∀ μ' H' σ', Ev μ H μ' H' → SRel R μ' env' H' σ' → HRel R μ' h' H' → L2.wipe σ' own = L2.wipe σ own → Q σ' H'
theorem assignEach_cons {e : Expr} {es : List Expr} {env : Env} (h : isStar e = false) : assignEach (e :: es) env = (false, assign e env) :: assignEach es env := by
  cases e <;> first | rfl | (simp [isStar] at h)
theorem assignEach_len (env : Env) : ∀ es : List Expr, (assignEach es env).length = es.length
  | [] => rfl
  | e :: r => by
    have ih := assignEach_len env r
    cases e <;> simp [assignEach, ih]
theorem assignEach_star {env : Env} : ∀ {es : List Expr}, plainArgs es = true → (assignEach es env).findIdx? (·.1) = none
  | [], _ => rfl
  | e :: r, h => by
    obtain ⟨h1, h2⟩ := plainArgs_cons h
    rw [assignEach_cons h1, List.findIdx?_cons]
    simp [assignEach_star h2]
theorem ag_all {own : List Nat} {g : Expr → DG} : ∀ (es : List Expr), (∀ e ∈ es, isStar e = false → AG R X own e (g e)) → plainArgs es = true → PGs X es (rdGs R own (evTgts g es))
  | [], _, _ => ⟨fun pins s σ H vs us Q I r ⟨μ, env, h, avs, env', h', S, hr, ra, e, k⟩ => pgs_nil.run pins s σ H vs us Q I r (by
      cases avs with
      | nil =>
        cases e
        exact ⟨ra, k μ H σ (Ev.refl _ _) S hr rfl⟩
      | cons a l => cases e)⟩
  | e :: es, h, hp => by
    obtain ⟨h1, h2⟩ := plainArgs_cons hp
    have ih := ag_all es (fun e he => h e (List.mem_cons_of_mem _ he)) h2
    have hh := h e List.mem_cons_self h1
    refine ⟨fun pins s σ H vs us Q I r ⟨μ, env, hp, avs, env', h', S, hr, ra, e1, k⟩ => (pgs_cons hh ih (by rw [assignEach_cons h1] <;> rfl)).run pins s σ H vs us Q I r ?_⟩
    have e1 : gAll (g e :: evTgts g es) avs env hp = some (env', h') := by
      have q : evTgts g (e :: es) = g e :: evTgts g es := by
        show (if isStar e = true then gFail else g e) :: _ = _
        rw [h1]; rfl
      rw [← q]; exact e1
    cases avs with
    | nil => cases e1
    | cons av avs =>
      obtain ⟨v, vr, rfl, rv, rvs⟩ := ra
      refine ⟨v, vr, rfl, ?_⟩
      cases e2 : g e av env hp with
      | none => simp only [gAll, e2] at e1; cases e1
      | some q =>
        obtain ⟨env1, h1'⟩ := q
        simp only [gAll, e2] at e1
        refine ⟨μ, env, hp, av, env1, h1', S, hr, rv, e2, fun μ1 H1 σ1 ev1 S1 hr1 w1 => ?_⟩
        exact ⟨μ1, env1, h1', avs, env', h', S1, hr1, rvs.ev hr.cells ev1, e1, fun μ2 H2 σ2 ev2 S2 hr2 w2 => k μ2 H2 σ2 (ev1.trans ev2) S2 hr2 (w2.trans w1)⟩
theorem evTgts_len (g : Expr → DG) : ∀ es : List Expr, (evTgts g es).length = es.length
  | [] => rfl
  | e :: r => by simp [evTgts, evTgts_len g r]
theorem gAll_len : ∀ {gs : List DG} {vs : List AV} {env env' : AEnv} {h h' : AHp}, gAll gs vs env h = some (env', h') → vs.length = gs.length
  | [], [], _, _, _, _, _ => rfl
  | g :: gs, v :: vs, env, env', h, h', e => by
    unfold gAll at e
    split at e
    · rw [List.length_cons, List.length_cons, gAll_len e]
    · cases e
  | [], _ :: _, _, _, _, _, e => by cases e
  | _ :: _, [], _, _, _, _, e => by cases e
theorem ag_tup {own : List Nat} {es : List Expr} {gs : List DG} {k : Nat} {pos : Pos} (hK : X.K = R.K) (hc : X.calm = true) (hgs : gs.length = es.length) (hp : plainArgs es = true) (h : PGs X es (rdGs R own gs)) : AG R X own (.Tuple es k pos) (Tp.gTup gs) := by
  refine ((pg_tup hc h (assignEach_len _ _) (assignEach_star hp)).or (pg_lst hc h (assignEach_len _ _) (assignEach_star hp))).imp fun v σ H Q ⟨μ, env, hp', av, env', h', S, hr, rv, e, k⟩ => ?_
  rw [hK]
  cases av with
  | tup xs =>
    obtain ⟨a, vs, rfl, h2, h3⟩ := rv
    exact .inl ⟨a, vs, rfl, h2, by rw [h3.length, gAll_len e, hgs], μ, env, hp', xs, env', h', S, hr, h3, e, k⟩
  | lst xs =>
    obtain ⟨a, vs, rfl, h2, n, h3⟩ := rv
    exact .inr ⟨a, vs, rfl, .inl h2, by rw [h3.length, gAll_len e, hgs], μ, env, hp', xs, env', h', S, hr, h3, e, k⟩
  | _ => cases e

theorem rdE_at {m : DE} {μ : List Addr} {env : AEnv} {h h1 : AHp} {H : Hp} {σ : L2.St} {av : AV} {Q : VK} (S : SRel R μ env H σ) (hr : HRel R μ h H) (e : m env h = .ok av h1)
    (hk : ∀ μ' H' v, Ev μ H μ' H' → SRel R μ' env H' σ → HRel R μ' h1 H' → Rep R μ' H' av v → Q v H') : rdE R W m σ H Q := by
  refine ⟨μ, env, h, S, hr, ?_⟩
  rw [e]
  exact fun μ' H' v ev r rv => hk μ' H' v ev (S.ev hr.cells ev) r rv
theorem ag_sub {own : List Nat} {o i : Expr} {mo mi : DE} {pos : Pos} (ho : AE R X W o mo) (hi : AE R X W i mi) (hs : noSlice i = true) : AG R X own (.Subscript o i pos) (Tp.gSub mo mi) := by
  refine (pg_sub ho hi set_list (fun v => by cases i <;> first | rfl | (simp [noSlice] at hs))).imp fun v σ H Q ⟨μ, env, h, av, env', h', S, hr, rv, e, k⟩ => ?_
  unfold Tp.gSub at e
  split at e
  · rename_i n h1 e1
    split at e
    · rename_i kk h2 e2
      split at e
      · rename_i xs e3
        split at e
        · rename_i j e4
          split at e
          · rename_i hp
            cases e
            refine rdE_at S hr e1 fun μ1 H1 ov ev1 S1 hr1 ro => ?_
            refine rdE_at S1 hr1 e2 fun μ2 H2 iv ev2 S2 hr2 ri => ?_
            obtain ⟨a, ha, rfl⟩ := ro.ev hr1.cells ev2
            obtain ⟨ws, z, rw', pu⟩ := hr2.obj n _ a e3 ha
            have rv2 := rv.ev hr.cells (ev1.trans ev2)
            have ev3 : Ev μ2 H2 μ2 (upd H2 a (.lst (ws.set j v))) := Ev.write (List.mem_of_getElem? ha)
            refine ⟨a, ws, kk, j, rfl, ri, z, by rw [rw'.length]; exact e4, ?_⟩
            exact k μ2 _ σ ((ev1.trans ev2).trans ev3) (S2.ev hr2.cells ev3) (hr2.setLst e3 ha z (rw'.set j rv2) (pureAll_set j pu hp)) rfl
          · cases e
        · cases e
      · cases e
    · cases e
  · cases e

def tFldG (K : PySem.W.Frag) (ta : TE) (f : Str) : TG := fun y σ H Q => ta σ H fun x H2 => ∃ a C dx fs, x = .ref a ∧ H2 a = some (.ins C dx fs) ∧ Cls K C ∧ NoAttr K C f ∧ fs.length < 1000 ∧ Q σ (upd H2 a (.ins C dx (L2.putF f y fs)))
theorem pg_fld {o : Expr} {ta : TE} {f : Str} {pos : Pos} (ha : PE X o ta) : PG X (.Attribute o f pos) (tFldG X.K ta f) := by
  refine ⟨fun pins s σ H v u Q I r h => ?_⟩
  show wpAny _ _ (do
    let ov ← holding [u] (eval o X.env)
    standAt pos.atName
    holding [u, ov] (setAttr ov f u)
    release [u, ov] []) _ _ s
  refine wpAny_bind (wpAny_holding (thn (ha.run pins s σ H _ I h) fun ov s1 ⟨x, H1, I1, r1, q1⟩ => ?_))
  obtain ⟨a, C, dx, fs, ex, ea, c, n, hl, q⟩ := q1
  subst ex
  obtain rfl : ov = Value.ref a := r1
  refine wpAny_bind (wpAny_standAt (wpAny_bind (wpAny_holding (setattr_ok I1 ea c n hl r fun s2 I2 => ?_))))
  exact wpAny_release ⟨σ, _, I2, q⟩
theorem RepF.putF {μ : List Addr} {H : Hp} {f : Str} {x : AV} {v : V} (r : Rep R μ H x v) : ∀ {fs : List (Str × AV)} {ws : List (Str × V)}, RepF R μ H fs ws → RepF R μ H (Tp.putF f x fs) (L2.putF f v ws)
  | [], _, h => by
    rw [show _ = [] from h]
    exact ⟨v, [], rfl, r, rfl⟩
  | (g, y) :: fs, _, h => by
    obtain ⟨w, t, rfl, h1, h2⟩ := h
    unfold Tp.putF L2.putF
    by_cases e : g = f
    · rw [if_pos e, if_pos e]
      exact ⟨v, t, rfl, r, h2⟩
    · rw [if_neg e, if_neg e]
      exact ⟨w, _, rfl, h1, RepF.putF r h2⟩
theorem RepF.length {μ : List Addr} {H : Hp} : ∀ {fs : List (Str × AV)} {ws : List (Str × V)}, RepF R μ H fs ws → ws.length = fs.length
  | [], _, h => by rw [show _ = [] from h]; rfl
  | (g, y) :: fs, _, h => by
    obtain ⟨w, t, rfl, h1, h2⟩ := h
    rw [List.length_cons, List.length_cons, RepF.length h2]
theorem pureF_putF {f : Str} {x : AV} (hx : x.pure = true) : ∀ {fs : List (Str × AV)}, AV.pureF fs = true → AV.pureF (Tp.putF f x fs) = true
  | [], _ => by simp [Tp.putF, AV.pureF, hx]
  | (g, y) :: fs, h => by
    have h' : y.pure = true ∧ AV.pureF fs = true := by simpa [AV.pureF] using h
    unfold Tp.putF
    split
    · simp [AV.pureF, hx, h'.2]
    · simp [AV.pureF, h'.1, pureF_putF hx h'.2]
theorem ag_fld {own : List Nat} (hK : X.K = R.K) (F : Facts R X.mg) {o : Expr} {mo : DE} {f : Str} {pos : Pos} (ho : AE R X W o mo) : AG R X own (.Attribute o f pos) (Tp.gFld R.G f mo) := by
  refine (pg_fld ho).imp fun v σ H Q ⟨μ, env, h, av, env', h', S, hr, rv, e, k⟩ => ?_
  unfold Tp.gFld at e
  split at e
  · rename_i n h1 e1
    split at e
    · rename_i c fs e3
      split at e
      · rename_i ci e4
        split at e
        · rename_i hp
          obtain ⟨p1, p2, p3⟩ := hp
          cases e
          refine rdE_at S hr e1 fun μ1 H1 ov ev1 S1 hr1 ro => ?_
          obtain ⟨a, ha, rfl⟩ := ro
          obtain ⟨dx, ws, z, hc, rw', pu⟩ := hr1.obj n _ a e3 ha
          have rv2 := rv.ev hr.cells ev1
          have ev3 : Ev μ1 H1 μ1 (upd H1 a (.ins (R.ca c) dx (L2.putF f v ws))) := Ev.write (List.mem_of_getElem? ha)
          refine ⟨a, R.ca c, dx, ws, rfl, z, hK ▸ (F.cat c ci e4).1, hK ▸ F.cfld c ci f e4 (by simpa using p3), by rw [rw'.length]; exact p1, ?_⟩
          refine k μ1 _ σ (ev1.trans ev3) (S1.ev hr1.cells ev3) (hr1.write (List.getElem?_eq_some_iff.mp e3).1 ha (fun ps q => by rw [z] at q; cases q) (fun c' q q' => by rw [z] at q'; unfold LamX.CodeO at q'; cases q') ?_) rfl
          exact ⟨dx, _, upd_same, hc, (RepF.putF rv2 rw').ev hr1.cells ev3, pureF_putF p2 pu⟩
        · cases e
      · cases e
    · cases e
  · cases e
end
end Tp
end
section
set_option Elab.async false
set_option linter.all false
set_option maxRecDepth 100000
set_option maxHeartbeats 1000000

namespace Tp
open PySem PySem.Spec PyProof.Rows L2
section
variable {R : Rx} {X : Cx} {W : WX}

section
variable {μ : List Addr} {H : Hp} {D : Addr} {acc : List V} {o : HO}
mutual
theorem Rep.hw (hd : D ∈ R.hid) (nd : D ∉ μ) (hD : H D = some (.lst acc)) : ∀ {av : AV} {v : V}, Rep R μ H av v → Rep R μ (upd H D o) av v
  | .non, _, h => h
  | .bl _, _, h => h
  | .int _, _, h => h
  | .str _, _, h => h
  | .tup xs, v, h => by
    obtain ⟨a, vs, e1, h1, h2⟩ := h
    refine ⟨a, vs, e1, ?_, RepL.hw hd nd hD h2⟩
    rcases h1 with (h1 | ⟨q, h1⟩) | h1
    · exact .inl (.inl (by rw [upd_ne (ne_of h1 hD (fun z => by cases z))]; exact h1))
    · exact .inl (.inr ⟨q, by rw [upd_ne (ne_of h1 hD (fun z => by cases z))]; exact h1⟩)
    · exact .inr h1
  | .lst xs, v, h => by
    obtain ⟨a, vs, e1, h1, n, h2⟩ := h
    have ne : a ≠ D := fun z => n.2 (by rw [z]; exact hd)
    refine ⟨a, vs, e1, ?_, n, RepL.hw hd nd hD h2⟩
    rcases h1 with h1 | ⟨q, h1⟩
    · exact .inl (by rw [upd_ne ne]; exact h1)
    · exact .inr ⟨q, by rw [upd_ne ne]; exact h1⟩
  | .ref n, v, h => h
  | .fn _, _, h => h
  | .cls _, _, h => h
  | .xcls _, _, h => h
  | .ty _, _, h => h
  | .exc k x, v, h => by
    obtain ⟨a, d, f, u, h1, h2, h3, h4, n, h5⟩ := h
    exact ⟨a, d, f, u, h1, h2, h3, by rw [upd_ne (ne_of h4 hD (fun z => by cases z))]; exact h4, n, Rep.hw hd nd hD h5⟩
  | .obj k fs, v, h => by
    obtain ⟨a, dx, fs', e1, h1, n, k1, h2⟩ := h
    exact ⟨a, dx, fs', e1, by rw [upd_ne (ne_of h1 hD (fun z => by cases z))]; exact h1, n, k1, RepF.hw hd nd hD h2⟩
  | .clo i cs, v, h => by
    obtain ⟨f, ws, e1, h1, h2⟩ := h
    obtain ⟨qual, cl, pm, ctv, c', g1, g2, g3, n1, n2, hl, inj, hc, hk⟩ := h1
    have cell : ∀ {c w}, CellIs R μ H c w → CellIs R μ (upd H D o) c w := fun {c w} q => by
      obtain ⟨co, d, q⟩ := q
      rcases q with ⟨q, n⟩ | q
      · exact ⟨co, d, .inl ⟨by rw [upd_ne (ne_of q hD (fun z => by cases z))]; exact q, n⟩⟩
      · exact ⟨co, d, .inr q⟩
    refine ⟨f, ws, e1, ⟨qual, cl, pm, ctv, c', g1, by rw [upd_ne (ne_of g2 hD (fun z => by cases z))]; exact g2, by rw [upd_ne (ne_of g3 hD (fun z => by unfold LamX.CodeO at z; cases z))]; exact g3, n1, n2, hl, inj, fun y c q => ?_, fun k y q => ?_⟩, RepO.hw hd nd hD h2⟩
    · obtain ⟨w, q2⟩ := hc y c q
      exact ⟨w, cell q2⟩
    · obtain ⟨c, q1, q2⟩ := hk k y q
      refine ⟨c, q1, fun v hv => ?_⟩
      obtain ⟨uv, r, q3⟩ := q2 v hv
      exact ⟨uv, r, cell q3⟩
  | .dct _, _, h => h
theorem RepL.hw (hd : D ∈ R.hid) (nd : D ∉ μ) (hD : H D = some (.lst acc)) : ∀ {xs : List AV} {vs : List V}, RepL R μ H xs vs → RepL R μ (upd H D o) xs vs
  | [], _, h => h
  | x :: xs, vs, h => by
    obtain ⟨v, r, e1, h1, h2⟩ := h
    exact ⟨v, r, e1, Rep.hw hd nd hD h1, RepL.hw hd nd hD h2⟩
theorem RepF.hw (hd : D ∈ R.hid) (nd : D ∉ μ) (hD : H D = some (.lst acc)) : ∀ {xs : List (Str × AV)} {vs : List (Str × V)}, RepF R μ H xs vs → RepF R μ (upd H D o) xs vs
  | [], _, h => h
  | (f, x) :: xs, vs, h => by
    obtain ⟨v, r, e1, h1, h2⟩ := h
    exact ⟨v, r, e1, Rep.hw hd nd hD h1, RepF.hw hd nd hD h2⟩
theorem RepO.hw (hd : D ∈ R.hid) (nd : D ∉ μ) (hD : H D = some (.lst acc)) : ∀ {xs : List (Option AV)} {vs : List (Option V)}, RepO R μ H xs vs → RepO R μ (upd H D o) xs vs
  | [], _, h => h
  | none :: xs, vs, h => by
    obtain ⟨v, r, e1, h2⟩ := h
    exact ⟨v, r, e1, RepO.hw hd nd hD h2⟩
  | some x :: xs, vs, h => by
    obtain ⟨v, r, e1, h1, h2⟩ := h
    exact ⟨v, r, e1, Rep.hw hd nd hD h1, RepO.hw hd nd hD h2⟩
end
theorem HRel.hw {h : AHp} {acc' : List V} (hr : HRel R μ h H) (hd : D ∈ R.hid) (hD : H D = some (.lst acc)) : HRel R μ h (upd H D (.lst acc')) := by
  have nd := (hr.hid D hd).1
  refine ⟨hr.len, hr.nd, fun i ob a h1 h2 => ?_, fun p hp => ?_, fun b hb => ?_⟩
  · have ne : a ≠ D := fun z => nd (by rw [← z]; exact List.mem_of_getElem? h2)
    have q := hr.obj i ob a h1 h2
    cases ob with
    | lst xs =>
      obtain ⟨vs, z, r, pu⟩ := q
      exact ⟨vs, by rw [upd_ne ne]; exact z, r.hw hd nd hD, pu⟩
    | ins k fs =>
      obtain ⟨dx, fs', z, n, r, pu⟩ := q
      exact ⟨dx, fs', by rw [upd_ne ne]; exact z, n, r.hw hd nd hD, pu⟩
    | dct kvs => exact q.elim
  · obtain ⟨ps, h1, h2, h3⟩ := hr.tabs p hp
    refine ⟨ps, by rw [upd_ne (ne_of h1 hD (fun z => by cases z))]; exact h1, h2, fun pos cv hc => ?_⟩
    obtain ⟨c', e1, e2⟩ := h3 pos cv hc
    exact ⟨c', e1, by rw [upd_ne (ne_of e2 hD (fun z => by unfold LamX.CodeO at z; cases z))]; exact e2⟩
  · obtain ⟨n, xs, z⟩ := hr.hid b hb
    by_cases e : b = D
    · subst e
      exact ⟨n, acc', upd_same⟩
    · exact ⟨n, xs, by rw [upd_ne e]; exact z⟩
end

theorem HRel.begin {μ : List Addr} {h : AHp} {H : Hp} {D : Addr} (hr : HRel R μ h H) (hD : H D = none) : HRel (R.wh (D :: R.hid)) μ h (upd H D (.lst [])) := by
  have ok : HidOk R H (D :: R.hid) := fun a ha => by
    rcases List.mem_cons.mp ha with e | e
    · exact .inr (by rw [e]; exact hD)
    · exact .inl e
  have q := hr.new (o := .lst []) hD
  have e : Ev μ H μ (upd H D (.lst [])) := Ev.new hD
  refine ⟨q.len, q.nd, fun i ob a h1 h2 => ?_, q.tabs, fun b hb => ?_⟩
  · have ne : a ≠ D := fun z => hr.notin hD (by rw [← z]; exact List.mem_of_getElem? h2)
    have q := (hr.obj i ob a h1 h2).wh ok
    have c : CellsOk μ H := hr.cells
    cases ob with
    | lst xs =>
      obtain ⟨vs, z, r, pu⟩ := q
      exact ⟨vs, by rw [upd_ne ne]; exact z, r.ev c e, pu⟩
    | ins k fs =>
      obtain ⟨dx, fs', z, n, r, pu⟩ := q
      exact ⟨dx, fs', by rw [upd_ne ne]; exact z, n, r.ev c e, pu⟩
    | dct kvs => exact q.elim
  · rcases List.mem_cons.mp hb with e | e
    · rw [e]; exact ⟨hr.notin hD, [], upd_same⟩
    · exact q.hid b e
theorem HRel.unwh {μ : List Addr} {h : AHp} {H : Hp} {D : Addr} (hr : HRel (R.wh (D :: R.hid)) μ h H) : HRel R μ h H := by
  have ok : HidOk (R.wh (D :: R.hid)) H R.hid := fun a ha => .inl (List.mem_cons_of_mem _ ha)
  exact ⟨hr.len, hr.nd, fun i ob a h1 h2 => (hr.obj i ob a h1 h2).wh ok, hr.tabs, fun b hb => hr.hid b (List.mem_cons_of_mem _ hb)⟩
theorem RepL.unwh {μ : List Addr} {H : Hp} {D : Addr} {xs : List AV} {vs : List V} (h : RepL (R.wh (D :: R.hid)) μ H xs vs) : RepL R μ H xs vs := RepL.wh (R := R.wh (D :: R.hid)) (hid := R.hid) (fun a ha => .inl (List.mem_cons_of_mem _ ha)) h
theorem Ev.hid {μ μ1 : List Addr} {H H1 : Hp} {D : Addr} {o : HO} (e : Ev μ H μ1 H1) (hD : H D = none) : Ev μ H μ1 (upd H1 D o) :=
  ⟨e.pre, fun a u h n t => by rw [upd_ne (ne_of_none h hD)]; exact e.keep a u h n t, fun a u h => by
    obtain ⟨o', z⟩ := e.there a u h
    exact ⟨o', by rw [upd_ne (ne_of_none h hD)]; exact z⟩⟩
theorem SRel.wiped {μ : List Addr} {env : AEnv} {H : Hp} {σ : L2.St} (S : SRel R μ env H σ) : ∀ own : List Nat, SRel R μ (Tp.wipe own env) H (L2.wipe σ own)
  | [] => S
  | i :: own => (SRel.wiped S own).unset i
def W0 : WX := fun _ _ _ _ => False

def rdEh (R : Rx) (W : WX) (m : DE) : TE := fun σ H Q => ∃ hid, rdE (R.wh hid) W m σ H Q
def rdTh (R : Rx) (W : WX) (m : DT) : TT := fun σ H Q => ∃ hid, rdT (R.wh hid) W m σ H Q
def rdGh (R : Rx) (own : List Nat) (g : DG) : TG := fun v σ H Q => ∃ hid, rdG (R.wh hid) own g v σ H Q
theorem aeh {e : Expr} {m : DE} (h : ∀ hid, AE (R.wh hid) X W e m) : PE X e (rdEh R W m) := ⟨fun pins s σ H Q I ⟨hid, q⟩ => (h hid).run pins s σ H Q I q⟩
theorem ath {e : Expr} {m : DT} (h : ∀ hid, AT (R.wh hid) X W e m) : PT X e (rdTh R W m) := ⟨fun pins s σ H Q I ⟨hid, q⟩ => (h hid).run pins s σ H Q I q⟩
theorem agh {own : List Nat} {e : Expr} {g : DG} (h : ∀ hid, AG (R.wh hid) X own e g) : PG X e (rdGh R own g) := ⟨fun pins s σ H v u Q I r ⟨hid, q⟩ => (h hid).run pins s σ H v u Q I r q⟩
theorem atsh {ifs : List Expr} {f : Expr → DT} (h : ∀ e ∈ ifs, ∀ hid, AT (R.wh hid) X W e (f e)) : PTs X ifs (rdTh R W (evTests f ifs)) := by
  match ifs, h with
  | [], _ =>
    refine ⟨fun pins s σ H Q I ⟨hid, μ, env, hp, S, hr, p⟩ => pts_nil.run pins s σ H Q I (p μ H (Ev.refl _ _) hr)⟩
  | [e], h => exact pts_one (ath (h e (by simp)))
  | _ :: _ :: _, _ => exact ⟨fun pins s σ H Q I ⟨hid, μ, env, hp, S, hr, p⟩ => p.elim⟩

theorem comp_rd {own : List Nat} {it : DI} {g : DG} {t : DT} {m : DE} {σ : L2.St} {H : Hp} {Q : VK} (q : rdE R W (eComp own it g t m) σ H Q) : tLc (rdI R W it) (rdGh R own g) (rdTh R W0 t) (rdEh R W0 m) own σ H Q := by
  obtain ⟨μ, env, h, S, hr, p⟩ := q
  have p : Post R W σ μ H (bind (it env) (fun src => match src with
    | .items xs => bind (compL g t m (Tp.wipe own env) xs []) fun ys => ret (.lst ys)
    | .live _ => fail) h) Q := p
  refine ⟨μ, env, h, S, hr, ?_⟩
  cases e : it env h with
  | stuck => rw [bind_stuck e] at p; exact p
  | exc c x h1 => rw [bind_exc e] at p; exact p
  | ok src h1 =>
    rw [bind_ok e] at p
    intro μ1 H1 J ev hr1 wk D hD
    cases src with
    | live n => exact p.elim
    | items xs =>
      have p : Post R W σ μ H (bind (compL g t m (Tp.wipe own env) xs []) (fun ys => ret (.lst ys)) h1) Q := p
      have p1 := p.ev ev
      have S1 := S.ev hr.cells ev
      have hidOk : HidOk R H1 (D :: R.hid) := fun a ha => by
        rcases List.mem_cons.mp ha with e | e
        · exact .inr (by rw [e]; exact hD)
        · exact .inl e
      have items := wk (D :: R.hid) hidOk
      have S1' := (S1.wh hidOk).wiped own
      -- the invariant
      let Pv : Nat → Hp → Prop := fun i Hc => ∃ μi hi acc av, Hc D = some (.lst av) ∧ Ev μ1 H1 μi Hc ∧ HRel (R.wh (D :: R.hid)) μi hi Hc ∧ RepL (R.wh (D :: R.hid)) μi Hc acc av ∧
        Post R W σ μ1 H1 (bind (compL g t m (Tp.wipe own env) (xs.drop i) acc) (fun ys => ret (.lst ys)) hi) Q
      have start : Pv 0 (upd H1 D (.lst [])) := ⟨μ1, h1, [], [], upd_same, Ev.new hD, hr1.begin hD, rfl, p1⟩
      refine ⟨fun i k Hc => k = xs.length - i ∧ i ≤ xs.length ∧ Pv i Hc, ⟨xs.length, by simp, Nat.zero_le _, start⟩, ?_⟩
      rintro i k Hc ⟨rfl, hi, μi, hpi, acc, av, eD, evi, hri, rac, pi⟩
      by_cases hlt : i < xs.length
      · refine .inr ⟨items.goes μi Hc i evi hlt, Pv (i + 1), fun H' p' => ⟨xs.length - (i + 1), by omega, rfl, hlt, p'⟩, fun x H' y => ?_⟩
        obtain ⟨ev2, hr2, rx⟩ := items.yields μi Hc hpi i x H' evi hri hlt y
        have rx := rx xs[i] (List.getElem?_eq_getElem hlt)
        have ed : xs.drop i = xs[i] :: xs.drop (i + 1) := (List.getElem_cons_drop hlt).symm
        rw [ed] at pi
        have S2 := S1'.ev (μ1 := μi) (H1 := Hc) hr1.cells evi |>.ev hri.cells ev2
        -- the store
        cases eg : g xs[i] (Tp.wipe own env) hpi with
        | none =>
          have e0 : compL g t m (Tp.wipe own env) (xs[i] :: xs.drop (i + 1)) acc hpi = .stuck := by simp only [compL, eg]
          rw [bind_stuck e0] at pi; exact pi.elim
        | some q1 =>
          obtain ⟨env1, hp1⟩ := q1
          refine ⟨D :: R.hid, μi, Tp.wipe own env, hpi, xs[i], env1, hp1, S2, hr2, rx, eg, fun μ3 H3 σ3 ev3 S3 hr3 w3 => ?_⟩
          have wi : L2.wipe σ3 own = L2.wipe σ own := by
            rw [w3]
            apply List.ext_getElem?
            intro j
            rw [wipe_get, wipe_get]
            split
            · cases σ[j]? <;> rfl
            · rfl
          refine ⟨wi, D :: R.hid, μ3, env1, hp1, S3, hr3, ?_⟩
          have keepD : ∀ {μ4 : List Addr} {H4 : Hp}, Ev μi Hc μ4 H4 → H4 D = some (.lst av) := fun {μ4 H4} e4 => e4.keep D _ eD (hri.hid D List.mem_cons_self).1 (fun ps z => by cases z)
          cases et : t env1 hp1 with
          | stuck =>
            have e0 : compL g t m (Tp.wipe own env) (xs[i] :: xs.drop (i + 1)) acc hpi = .stuck := by simp only [compL, eg, et]
            rw [bind_stuck e0] at pi; exact pi.elim
          | exc c y hy =>
            have e0 : compL g t m (Tp.wipe own env) (xs[i] :: xs.drop (i + 1)) acc hpi = .stuck := by simp only [compL, eg, et]
            rw [bind_stuck e0] at pi; exact pi.elim
          | ok b hp2 =>
            intro μ4 H4 ev4 hr4
            have evc4 : Ev μi Hc μ4 H4 := (ev2.trans ev3).trans ev4
            cases b with
            | false =>
              rw [if_neg Bool.false_ne_true]
              have e0 : compL g t m (Tp.wipe own env) (xs[i] :: xs.drop (i + 1)) acc hpi = compL g t m (Tp.wipe own env) (xs.drop (i + 1)) acc hp2 := by simp only [compL, eg, et]
              have e1 : bind (compL g t m (Tp.wipe own env) (xs[i] :: xs.drop (i + 1)) acc) (fun ys => ret (AV.lst ys)) hpi = bind (compL g t m (Tp.wipe own env) (xs.drop (i + 1)) acc) (fun ys => ret (AV.lst ys)) hp2 := by unfold bind; rw [e0]
              rw [e1] at pi
              exact ⟨μ4, hp2, acc, av, keepD evc4, evi.trans evc4, hr4, rac.ev hri.cells evc4, pi⟩
            | true =>
              rw [if_pos rfl]
              refine ⟨D :: R.hid, μ4, env1, hp2, S3.ev hr3.cells ev4, hr4, ?_⟩
              cases em : m env1 hp2 with
              | stuck =>
                have e0 : compL g t m (Tp.wipe own env) (xs[i] :: xs.drop (i + 1)) acc hpi = .stuck := by simp only [compL, eg, et, em]
                rw [bind_stuck e0] at pi; exact pi.elim
              | exc c y hy =>
                have e0 : compL g t m (Tp.wipe own env) (xs[i] :: xs.drop (i + 1)) acc hpi = .stuck := by simp only [compL, eg, et, em]
                rw [bind_stuck e0] at pi; exact pi.elim
              | ok yv hp3 =>
                intro μ5 H5 v ev5 hr5 rv
                have evc5 : Ev μi Hc μ5 H5 := evc4.trans ev5
                have d5 := keepD evc5
                by_cases hl : acc.length < SL
                · have e0 : compL g t m (Tp.wipe own env) (xs[i] :: xs.drop (i + 1)) acc hpi = compL g t m (Tp.wipe own env) (xs.drop (i + 1)) (acc ++ [yv]) hp3 := by simp only [compL, eg, et, em]; rw [if_pos hl]
                  have e1 : bind (compL g t m (Tp.wipe own env) (xs[i] :: xs.drop (i + 1)) acc) (fun ys => ret (AV.lst ys)) hpi = bind (compL g t m (Tp.wipe own env) (xs.drop (i + 1)) (acc ++ [yv])) (fun ys => ret (AV.lst ys)) hp3 := by unfold bind; rw [e0]
                  rw [e1] at pi
                  have hdm : D ∈ (R.wh (D :: R.hid)).hid := List.mem_cons_self
                  have ndm := (hr5.hid D hdm).1
                  have ra5 := rac.ev hri.cells evc5
                  refine ⟨av, d5, by rw [ra5.length, ← SL_eq]; exact hl, μ5, hp3, acc ++ [yv], av ++ [v], upd_same, (evi.trans evc5).hid hD, hr5.hw hdm d5, (ra5.snoc rv).hw hdm ndm d5, pi⟩
                · have e0 : compL g t m (Tp.wipe own env) (xs[i] :: xs.drop (i + 1)) acc hpi = .stuck := by simp only [compL, eg, et, em]; rw [if_neg hl]
                  rw [bind_stuck e0] at pi; exact pi.elim
      · have en : i = xs.length := by omega
        subst en
        refine .inl ⟨items.stops μi Hc evi, ?_⟩
        rw [List.drop_length] at pi
        have pi : Post R W σ μ1 H1 (.ok (.lst acc) hpi) Q := pi
        have n1 := hr1.off hD
        refine pi μi Hc (.ref D) evi hri.unwh ⟨D, av, rfl, .of eD, ⟨(hri.hid D List.mem_cons_self).1, n1.2⟩, rac.unwh⟩

structure CompOk (R : Rx) (X : Cx) (W : WX) (elt tg it : Expr) (ifs : List Expr) (scope : Scope) (own : List (Str × Nat)) (di : DI) (g : DG) (t : DT) (m : DE) : Prop where
  calm : X.calm = true
  nd : X.N.Nodup
  iter : AI R X W tg it di
  blk : BlkOk X.N X.env.scope scope own
  tgt : ∀ (s : Shared) (H : Hp) (C : Addr) (cl : List (Str × Addr)) (fp : List Addr) (hid : List Addr), AG (R.wh hid) (X.blk s H scope (compEnvC scope cl C X.env) fp) (own.map (·.2)) tg g
  tst : ∀ (s : Shared) (H : Hp) (C : Addr) (cl : List (Str × Addr)) (fp : List Addr), PTs (X.blk s H scope (compEnvC scope cl C X.env) fp) ifs (rdTh R W0 t)
  elt : ∀ (s : Shared) (H : Hp) (C : Addr) (cl : List (Str × Addr)) (fp : List Addr) (hid : List Addr), AE (R.wh hid) (X.blk s H scope (compEnvC scope cl C X.env) fp) W0 elt m
  fold : ∀ x, foldedSetIterable it X.env x = pure x
theorem ae_comp {elt tg it : Expr} {ifs : List Expr} {scope : Scope} {own : List (Str × Nat)} {di : DI} {g : DG} {t : DT} {m : DE} {pos : Pos} (h : CompOk R X W elt tg it ifs scope own di g t m) :
    AE R X W (.ListComp elt [⟨tg, it, ifs, 0⟩] scope pos) (eComp (own.map (·.2)) di g t m) :=
  (pe_lc h.calm h.nd h.iter h.blk (fun s H C cl fp => agh (h.tgt s H C cl fp)) h.tst (fun s H C cl fp => aeh (h.elt s H C cl fp)) h.fold).imp fun σ H Q q => comp_rd q
end
end Tp
end
section
set_option Elab.async false
set_option linter.all false
set_option maxRecDepth 100000
set_option maxHeartbeats 1000000

namespace Tp
open PySem PySem.Spec PyProof.Rows L2
abbrev WofE (E : XK) : WX := fun cls d _ H => E cls d H

def spF (R : Rx) (m : List AV → M AV) (np : Nat) : Sp := fun vs H Q E => ∃ hid μ h avs, HRel (R.wh hid) μ h H ∧ RepL (R.wh hid) μ H avs vs ∧ avs.length = np ∧ Post (R.wh hid) (WofE E) [] μ H (m avs h) Q

def KwB (K : PySem.W.Frag) (fd : FuncData) (ps : List Str) : Prop := ∀ (s : Shared) (ks : List Str) (us ws zs : List Value), K.In s.heap → order ps ks us ws = some zs → BindsTo s fd ⟨us, ks.zip ws⟩ (ps.zip zs)
structure CallsOk (R : Rx) (X : Cx) (c : Calls) (k : Nat) : Prop where
  fn : ∀ i fi, R.G.fns[i]? = some fi → ∃ fd, FnOk X.prog X.w X.K X.mg X.base (L2.CX X.prog X.w) k (R.fa i) fd fi.ps (spF R (c (.fn i)) fi.ps.length) ∧ Binds X.K fd fi.ps [] ∧ KwB X.K fd fi.ps
  len : ∀ i fi avs h, R.G.fns[i]? = some fi → c (.fn i) avs h ≠ .stuck → avs.length = fi.ps.length
  none : ∀ i avs h, R.G.fns[i]? = none → c (.fn i) avs h = .stuck
  clo : ∀ (i : LamInfo) (cs : List (Option AV)) (hid : List Addr) (A : Around) (outer : List Env) (s : Shared) (H : Hp) (f : Addr) (ws : List (Option V)) (us : List Value) (vs : List V) (avs : List AV) (μ : List Addr) (h : AHp) (Q : VK) (E : XK),
    Room k A → Env0 X.prog X.w X.K X.mg X.base A outer s H → HRel (R.wh hid) μ h H → CloAt (R.wh hid) μ H i f ws → RepO (R.wh hid) μ H cs ws → RepL (R.wh hid) μ H avs vs → Vals vs us → Post (R.wh hid) (WofE E) [] μ H (c (.clo i cs) avs h) Q →
    codeAny (model X.prog X.w) A (.call (.ref f) ⟨us, []⟩) (CR (L2.CX X.prog X.w) outer X.prog X.w H s Q E) s
section
variable {R : Rx} {X : Cx} {W : WX} {c : Calls} {k : Nat}
theorem Post.toE {σ : L2.St} {μ : List Addr} {H : Hp} {r : Res AV} {Q : VK} (p : Post R W σ μ H r Q) : Post R (WofE (WE W σ)) [] μ H r Q := by
  cases r with
  | ok a h => exact p
  | exc c x h => exact p
  | stuck => exact p
theorem Post.ns {σ : L2.St} {μ : List Addr} {H : Hp} {r : Res AV} {Q : VK} (p : Post R W σ μ H r Q) : r ≠ .stuck := fun e => by rw [e] at p; exact p

theorem run_fnA (C : CallsOk R X c k) (hr : Room k X.A) (tk : Takes X W) {i : Nat} {pins : List (Addr × Obj)} {σ : L2.St} {H : Hp} {s : Shared} {Q : VK} {us : List Value} {vs : List V} {avs : List AV} {μ : List Addr} {h : AHp}
    (I : Inv X pins σ H s) (hrel : HRel R μ h H) (ra : RepL R μ H avs vs) (r : Vals vs us) (p : Post R W σ μ H (c (.fn i) avs h) Q) : wpAny (model X.prog X.w) X.A (call (.ref (R.fa i)) us) (EP X pins σ Q) X.xe s := by
  cases e : R.G.fns[i]? with
  | none => rw [C.none i avs h e] at p; exact p.elim
  | some fi =>
    obtain ⟨fd, F, hb, _⟩ := C.fn i fi e
    exact run_fnS F hr hb (E := WE W) (passAt tk σ) I r ⟨R.hid, μ, h, avs, hrel, ra, C.len i fi avs h e p.ns, p.toE⟩

theorem run_cloA (C : CallsOk R X c k) (hr : Room k X.A) (tk : Takes X W) {i : LamInfo} {cs : List (Option AV)} {f : Addr} {ws : List (Option V)} {pins : List (Addr × Obj)} {σ : L2.St} {H : Hp} {s : Shared} {Q : VK} {us : List Value} {vs : List V} {avs : List AV} {μ : List Addr} {h : AHp}
    (I : Inv X pins σ H s) (hrel : HRel R μ h H) (hc : CloAt R μ H i f ws) (ro : RepO R μ H cs ws) (ra : RepL R μ H avs vs) (r : Vals vs us) (p : Post R W σ μ H (c (.clo i cs) avs h) Q) : wpAny (model X.prog X.w) X.A (call (.ref f) us) (EP X pins σ Q) X.xe s := by
  refine wpAny_call (codeAny_mono (C.clo i cs R.hid X.A X.stack s H f ws us vs avs μ h Q (WE W σ) hr I.env0 hrel hc ro ra r p.toE) fun r s' hq => ?_)
  cases r with
  | error e => exact passAt tk σ pins H s e s' I hq
  | ok fl =>
    cases fl with
    | ret u => exact I.after hq
    | next => exact False.elim hq
    | brk => exact False.elim hq
    | cont => exact False.elim hq
theorem lookup_fn (F : Facts R X.mg) {x : Str} {i : Nat} (h : R.G.names.lookup x = some (.fn i)) : X.mg x = some (.ref (R.fa i)) ∧ i < R.G.fns.length := by
  obtain ⟨u, v, h1, h2, h3⟩ := F.name x _ h
  obtain ⟨e, hi⟩ := h3 [] R.ex [] (fun _ => none)
  rw [show v = _ from e] at h2
  rw [h1, show u = _ from h2]
  exact ⟨rfl, hi⟩
theorem fkeepX (F : Facts R X.mg) (hK : X.K = R.K) {i : Nat} (hi : i < R.G.fns.length) : PySem.W.keepIn X.K (.ref (R.fa i)) = true := hK ▸ F.fkeep i _ (List.getElem?_eq_getElem hi)

theorem ae_call (F : Facts R X.mg) (hK : X.K = R.K) (C : CallsOk R X c k) (hr : Room k X.A) (tk : Takes X W) {x : Str} {i : Nat} (hn : R.G.names.lookup x = some (.fn i)) (hg : Gl X x) (hd : notDebug x = true) {es : List Expr} {a : DA} (hp : plainArgs es = true) (h0 : es = [] → a = aNil) (ha : AA R X W es a) {p0 pos : Pos} :
    AE R X W (.Call (.Name x p0) es [] pos) (eCall c i a) := by
  obtain ⟨hm, hi⟩ := lookup_fn F hn
  refine ⟨fun pins s σ H Q I ⟨μ, env, h, S, hrel, p⟩ => ?_⟩
  refine wpAny_Call_Name_kw (ld_glob I hg hm ?_ (notDebug_ok hd).1)
  cases es with
  | nil =>
    rw [h0 rfl] at p
    have p : Post R W σ μ H (c (.fn i) [] h) Q := p
    exact PySem.W.callWith_K0 I.kIn (fkeepX F hK hi) (run_fnA (us := []) (vs := []) (avs := []) C hr tk I hrel rfl .nil p)
  | cons e r =>
    have hA : rdA R W a σ H (fun vs H1 => ∃ μ1 h1 avs, HRel R μ1 h1 H1 ∧ RepL R μ1 H1 avs vs ∧ Post R W σ μ1 H1 (c (.fn i) avs h1) Q) := rdA_bind S hrel p fun avs h1 μ1 H1 vs ev S1 hr1 rvs p => ⟨μ1, h1, avs, hr1, rvs, p⟩
    refine PySem.W.callWith_K (h₀ := X.base) I.ok.mod.kin (fkeepX F hK hi) (thn (ha.run pos pins s σ H _ I hA) fun us s1 ⟨vs, H1, I1, r, μ1, h1, avs, hr1, rvs, p1⟩ => ⟨I1.kIn, ?_⟩) (hs_of hp) (hpl_of hp)
    exact run_fnA C hr tk I1 hr1 rvs r p1

theorem orderGo_rep {μ : List Addr} {H : Hp} : ∀ {l : List (Str × AV)} {l' : List (Str × V)} {ps : List Str} {zs : List AV}, (∀ p v, l.lookup p = some v → ∃ w, l'.lookup p = some w ∧ Rep R μ H v w) → orderGo l ps = some zs → ∃ us, orderGo l' ps = some us ∧ RepL R μ H zs us
  | _, _, [], zs, _, e => by
    cases e
    exact ⟨[], rfl, rfl⟩
  | l, l', p :: ps, zs, hl, e => by
    unfold orderGo at e
    cases e1 : l.lookup p with
    | none => rw [e1] at e; cases e
    | some v =>
      cases e2 : orderGo l ps with
      | none => rw [e1, e2] at e; cases e
      | some vs =>
        rw [e1, e2] at e
        cases e
        obtain ⟨w, h1, h2⟩ := hl p v e1
        obtain ⟨us, h3, h4⟩ := orderGo_rep hl e2
        exact ⟨w :: us, by unfold orderGo; rw [h1, h3], w, us, rfl, h2, h4⟩
theorem zip_rep {μ : List Addr} {H : Hp} : ∀ {ks : List Str} {ys : List AV} {ws : List V}, RepL R μ H ys ws → ∀ p v, (ks.zip ys).lookup p = some v → ∃ w, (ks.zip ws).lookup p = some w ∧ Rep R μ H v w
  | [], _, _, _, p, v, e => by simp at e
  | _ :: _, [], _, _, p, v, e => by simp at e
  | k :: ks, y :: ys, _, h, p, v, e => by
    obtain ⟨w, r, rfl, h1, h2⟩ := h
    simp only [List.zip_cons_cons, List.lookup_cons] at e ⊢
    cases q : p == k with
    | true => rw [q] at e; cases e; exact ⟨w, rfl, h1⟩
    | false => rw [q] at e; exact zip_rep h2 p v e
theorem order_rep {μ : List Addr} {H : Hp} {ps ks : List Str} {xs ys zs : List AV} {vs ws : List V} (hx : RepL R μ H xs vs) (hy : RepL R μ H ys ws) (e : order ps ks xs ys = some zs) : ∃ us, order ps ks vs ws = some us ∧ RepL R μ H zs us := by
  unfold order at e ⊢
  rw [hx.length, hy.length]
  split at e
  · rename_i hc
    rw [if_pos hc]
    cases e1 : orderGo (ks.zip ys) (ps.drop xs.length) with
    | none => rw [e1] at e; cases e
    | some vs' =>
      rw [e1] at e
      cases e
      obtain ⟨us, h1, h2⟩ := orderGo_rep (zip_rep (ks := ks) hy) e1
      exact ⟨vs ++ us, by rw [h1]; rfl, hx.append h2⟩
  · cases e
theorem orderGo_vals : ∀ {l : List (Str × V)} {l' : List (Str × Value)} {ps : List Str} {zs : List V}, (∀ p v, l.lookup p = some v → ∃ w, l'.lookup p = some w ∧ RelV v w) → orderGo l ps = some zs → ∃ us, orderGo l' ps = some us ∧ Vals zs us
  | _, _, [], zs, _, e => by
    cases e
    exact ⟨[], rfl, .nil⟩
  | l, l', p :: ps, zs, hl, e => by
    unfold orderGo at e
    cases e1 : l.lookup p with
    | none => rw [e1] at e; cases e
    | some v =>
      cases e2 : orderGo l ps with
      | none => rw [e1, e2] at e; cases e
      | some vs =>
        rw [e1, e2] at e
        cases e
        obtain ⟨w, h1, h2⟩ := hl p v e1
        obtain ⟨us, h3, h4⟩ := orderGo_vals hl e2
        exact ⟨w :: us, by unfold orderGo; rw [h1, h3], .cons h2 h4⟩
theorem zip_vals : ∀ {ks : List Str} {ys : List V} {ws : List Value}, Vals ys ws → ∀ p v, (ks.zip ys).lookup p = some v → ∃ w, (ks.zip ws).lookup p = some w ∧ RelV v w
  | [], _, _, _, p, v, e => by simp at e
  | _ :: _, [], _, _, p, v, e => by simp at e
  | k :: ks, y :: ys, _, .cons r t, p, v, e => by
    simp only [List.zip_cons_cons, List.lookup_cons] at e ⊢
    cases q : p == k with
    | true => rw [q] at e; cases e; exact ⟨_, rfl, r⟩
    | false => rw [q] at e; exact zip_vals t p v e
theorem order_vals {ps ks : List Str} {xs ys zs : List V} {vs ws : List Value} (hx : Vals xs vs) (hy : Vals ys ws) (e : order ps ks xs ys = some zs) : ∃ us, order ps ks vs ws = some us ∧ Vals zs us := by
  unfold order at e ⊢
  rw [← hx.length, ← hy.length]
  split at e
  · rename_i hc
    rw [if_pos hc]
    cases e1 : orderGo (ks.zip ys) (ps.drop xs.length) with
    | none => rw [e1] at e; cases e
    | some vs' =>
      rw [e1] at e
      cases e
      obtain ⟨us, h1, h2⟩ := orderGo_vals (zip_vals (ks := ks) hy) e1
      exact ⟨vs ++ us, by rw [h1]; rfl, hx.append h2⟩
  · cases e

theorem run_fnKA (C : CallsOk R X c k) (hr : Room k X.A) (tk : Takes X W) {i : Nat} {fi : FnInfo} (hfi : R.G.fns[i]? = some fi) {pins : List (Addr × Obj)} {σ : L2.St} {H : Hp} {s : Shared} {Q : VK} {us ws : List Value} {vs zs : List V} {avs azs axs : List AV} {ks : List Str} {μ : List Addr} {h : AHp}
    (I : Inv X pins σ H s) (hrel : HRel R μ h H) (ra : RepL R μ H avs vs) (r : Vals vs us) (rz : RepL R μ H azs zs) (rw' : Vals zs ws) (ho : order fi.ps ks avs azs = some axs) (p : Post R W σ μ H (c (.fn i) axs h) Q) :
    wpAny (model X.prog X.w) X.A (call (.ref (R.fa i)) us (ks.zip ws)) (EP X pins σ Q) X.xe s := by
  obtain ⟨fd, F, _, hk⟩ := C.fn i fi hfi
  obtain ⟨xs, o1, r1⟩ := order_rep ra rz ho
  obtain ⟨xu, o2, r2⟩ := order_vals r rw' o1
  refine wpAny_call (codeAny_mono (F.run X.A X.stack s H ⟨us, ks.zip ws⟩ xu xs Q (WE W σ) hr I.env0 (hk s ks us ws xu I.kIn o2) r2 ⟨R.hid, μ, h, axs, hrel, r1, C.len i fi axs h hfi p.ns, p.toE⟩) fun r s' hq => ?_)
  cases r with
  | error e => exact passAt tk σ pins H s e s' I hq
  | ok fl =>
    cases fl with
    | ret u => exact I.after hq
    | next => exact False.elim hq
    | brk => exact False.elim hq
    | cont => exact False.elim hq

abbrev AK (R : Rx) (X : Cx) (W : WX) (kws : List Keyword) (m : DA) : Prop := PK X kws (rdA R W m)
theorem ak_kws {f : Expr → DE} : ∀ {kws : List Keyword}, (∀ q, q ∈ kws → AE R X W q.value (f q.value)) → AK R X W kws (evKws f kws)
  | [], _ => ⟨fun pos pins s σ H Q I ⟨μ, env, h, S, hr, p⟩ => pk_nil.run pos pins s σ H Q I (p μ H [] (Ev.refl _ _) hr rfl)⟩
  | ⟨nm, e, kp⟩ :: r, h => by
    have ih := ak_kws (f := f) (kws := r) fun q hq => h q (List.mem_cons_of_mem _ hq)
    have he := h ⟨nm, e, kp⟩ List.mem_cons_self
    refine ⟨fun pos pins s σ H Q I ⟨μ, env, hp, S, hr, p⟩ => (pk_cons he ih).run pos pins s σ H Q I ?_⟩
    refine rdE_bindA S hr p fun av h1 μ1 H1 v ev S1 hr1 rv p => ?_
    refine rdA_bindA S1 hr1 p fun avs h2 μ2 H2 vs ev2 S2 hr2 rvs p => ?_
    exact p μ2 H2 _ (Ev.refl _ _) hr2 ⟨v, vs, rfl, rv.ev hr1.cells ev2, rvs⟩
theorem kwNames_ok {env : Env} {pos : Pos} : ∀ {kws : List Keyword} {ks : List Str}, kwNames kws = some ks → (backToKw pos (keywordEach kws env)).all (·.1.isSome) = true ∧ (backToKw pos (keywordEach kws env)).filterMap (·.1) = ks ∧ (backToKw pos (keywordEach kws env)).any (·.1.isNone) = false
  | [], ks, h => by
    cases h
    exact ⟨rfl, rfl, rfl⟩
  | ⟨none, e, kp⟩ :: r, ks, h => by cases h
  | ⟨some k, e, kp⟩ :: r, ks, h => by
    unfold kwNames at h
    cases q : kwNames r with
    | none => rw [q] at h; cases h
    | some l =>
      rw [q] at h
      cases h
      obtain ⟨h1, h2, h3⟩ := kwNames_ok (env := env) (pos := pos) q
      refine ⟨?_, ?_, ?_⟩
      · show (true && (backToKw pos (keywordEach r env)).all (·.1.isSome)) = true
        rw [h1]; rfl
      · show k :: (backToKw pos (keywordEach r env)).filterMap (·.1) = k :: l
        rw [h2]
      · show (false || (backToKw pos (keywordEach r env)).any (·.1.isNone)) = false
        rw [h3]; rfl
theorem ae_callK (F : Facts R X.mg) (hK : X.K = R.K) (C : CallsOk R X c k) (hr : Room k X.A) (tk : Takes X W) {x : Str} {i : Nat} {fi : FnInfo} (hfi : R.G.fns[i]? = some fi) (hn : R.G.names.lookup x = some (.fn i)) (hg : Gl X x) (hd : notDebug x = true) {es : List Expr} {kws : List Keyword} {ks : List Str} {a m : DA}
    (hp : plainArgs es = true) (h0 : es = [] → a = aNil) (hks : kwNames kws = some ks) (ha : AA R X W es a) (hkw : AK R X W kws m) {p0 pos : Pos} :
    AE R X W (.Call (.Name x p0) es kws pos) (eCallK c i fi.ps ks a m) := by
  obtain ⟨hm, hi⟩ := lookup_fn F hn
  obtain ⟨k1, k2, k3⟩ := kwNames_ok (env := X.env) (pos := pos) hks
  refine ⟨fun pins s σ H Q I ⟨μ, env, h, S, hrel, p⟩ => ?_⟩
  refine wpAny_Call_Name_kw (ld_glob I hg hm ?_ (notDebug_ok hd).1)
  -- behind the positional ones
  have fin : ∀ {us : List Value} {s1 : Shared} {vs : List V} {avs : List AV} {h1 : AHp} {μ1 : List Addr} {H1 : Hp}, Inv X pins σ H1 s1 → SRel R μ1 env H1 σ → HRel R μ1 h1 H1 → RepL R μ1 H1 avs vs → Vals vs us →
      Post R W σ μ1 H1 (bind (m env) (fun ys => match order fi.ps ks avs ys with
        | some zs => c (.fn i) zs
        | none => fail) h1) Q → wpAny (model X.prog X.w) X.A (evalAll ((backToKw pos (keywordEach kws X.env)).map (·.2))) (fun ws s2 => X.K.In s2.heap ∧ wpAny (model X.prog X.w) X.A (call (.ref (R.fa i)) us (((backToKw pos (keywordEach kws X.env)).filterMap (·.1)).zip ws)) (EP X pins σ Q) X.xe s2) X.xe s1 := fun {us s1 vs avs h1 μ1 H1} I1 S1 hr1 rvs r p1 => by
    have hB : rdA R W m σ H1 (fun zs H2 => ∃ μ2 h2 azs axs, HRel R μ2 h2 H2 ∧ RepL R μ2 H2 avs vs ∧ RepL R μ2 H2 azs zs ∧ order fi.ps ks avs azs = some axs ∧ Post R W σ μ2 H2 (c (.fn i) axs h2) Q) := rdA_bind S1 hr1 p1 fun azs h2 μ2 H2 zs ev2 S2 hr2 rzs p2 => by
      cases ho : order fi.ps ks avs azs with
      | none =>
        rw [ho] at p2
        exact p2.elim
      | some axs =>
        rw [ho] at p2
        exact ⟨μ2, h2, azs, axs, hr2, rvs.ev hr1.cells ev2, rzs, ho, p2⟩
    refine thn (hkw.run pos pins s1 σ H1 _ I1 hB) fun ws s2 ⟨zs, H2, I2, rz, μ2, h2, azs, axs, hr2, rvs2, rzs, ho, p2⟩ => ⟨I2.kIn, ?_⟩
    rw [k2]
    exact run_fnKA C hr tk hfi I2 hr2 rvs2 r rzs rz ho p2
  cases es with
  | nil =>
    rw [h0 rfl] at p
    refine PySem.W.callWith_KW0 (h₀ := X.base) I.ok.mod.kin (fkeepX F hK hi) k1 ?_ (by rw [k3] <;> rfl)
    exact fin (us := []) (vs := []) (avs := []) I S hrel rfl .nil p
  | cons e r =>
    have hA : rdA R W a σ H (fun vs H1 => ∃ μ1 h1 avs, SRel R μ1 env H1 σ ∧ HRel R μ1 h1 H1 ∧ RepL R μ1 H1 avs vs ∧ Post R W σ μ1 H1 (bind (m env) (fun ys => match order fi.ps ks avs ys with
        | some zs => c (.fn i) zs
        | none => fail) h1) Q) := rdA_bind S hrel p fun avs h1 μ1 H1 vs ev S1 hr1 rvs p => ⟨μ1, h1, avs, S1, hr1, rvs, p⟩
    refine PySem.W.callWith_KW (h₀ := X.base) I.ok.mod.kin (fkeepX F hK hi) k1 (thn (ha.run pos pins s σ H _ I hA) fun us s1 ⟨vs, H1, I1, r1, μ1, h1, avs, S1, hr1, rvs, p1⟩ => ?_) (by
      have e0 : (backTo pos (starEach (e :: r) X.env)).any (·.1) = false := by rw [backTo_any]; exact starEach_any hp
      rw [e0, k3] <;> rfl) (hs_of hp)
    exact fin I1 S1 hr1 rvs r1 p1


theorem cloFn {μ : List Addr} {H : Hp} {pins : List (Addr × Obj)} {σ : L2.St} {s : Shared} {i : LamInfo} {f : Addr} {ws : List (Option V)} (I : Inv X pins σ H s) (h : CloAt R μ H i f ws) : PySem.W.FnAt f s.heap := by
  obtain ⟨qual, cl, pm, ctv, c', _, h2, _⟩ := h
  obtain ⟨ho, _⟩ := (show ObjOk X.prog X.w H s.heap f (.frz _ _) from I.hok f _ h2)
  exact ⟨_, _, _, _, ho⟩
theorem ae_callV (F : Facts R X.mg) (hK : X.K = R.K) (C : CallsOk R X c k) (hr : Room k X.A) (tk : Takes X W) {x : Str} {i : Nat} (hN : X.N[i]? = some x) (hv : Vis X.env.scope x) (hd : notDebug x = true) {es : List Expr} {a : DA} (hp : plainArgs es = true) (h0 : es = [] → a = aNil) (ha : AA R X W es a) {p0 pos : Pos} :
    AE R X W (.Call (.Name x p0) es [] pos) (eCallV c (eVar i) a) := by
  obtain ⟨d1, d2, d3⟩ := notDebug_ok hd
  refine ⟨fun pins s σ H Q I ⟨μ, env, h, S, hrel, p⟩ => ?_⟩
  have hE : rdE R W (eVar i) σ H (fun v H1 => ∃ μ1 h1 av, SRel R μ1 env H1 σ ∧ HRel R μ1 h1 H1 ∧ Rep R μ1 H1 av v ∧ Post R W σ μ1 H1 (applyV c (a env) av h1) Q) :=
    rdE_bind S hrel p fun av h1 μ1 H1 v ev S1 hr1 rv p => ⟨μ1, h1, av, S1, hr1, rv, p⟩
  refine wpAny_Call_Name_kw (thn ((ae_var (R := R) (W := W) (pe_var (pos := p0) hN hv d1 d2)).run pins s σ H _ I hE) fun u s1 ⟨v, H1, I1, r1, μ1, h1, av, S1, hr1, rv, p1⟩ => ?_)
  cases av with
  | fn j =>
    obtain ⟨rfl, hj⟩ := rv
    obtain rfl : u = Value.ref (R.fa j) := r1
    cases es with
    | nil =>
      have p1 : Post R W σ μ1 H1 (bind (a env) (c (.fn j)) h1) Q := p1
      rw [h0 rfl] at p1
      have p1 : Post R W σ μ1 H1 (c (.fn j) [] h1) Q := p1
      exact PySem.W.callWith_K0 I1.kIn (fkeepX F hK hj) (run_fnA (us := []) (vs := []) (avs := []) C hr tk I1 hr1 rfl .nil p1)
    | cons e r =>
      have hA : rdA R W a σ H1 (fun vs H2 => ∃ μ2 h2 avs, HRel R μ2 h2 H2 ∧ RepL R μ2 H2 avs vs ∧ Post R W σ μ2 H2 (c (.fn j) avs h2) Q) := rdA_bind S1 hr1 p1 fun avs h1 μ1 H1 vs ev S1 hr1 rvs p => ⟨μ1, h1, avs, hr1, rvs, p⟩
      refine PySem.W.callWith_K (h₀ := X.base) I.ok.mod.kin (fkeepX F hK hj) (thn (ha.run pos pins s1 σ H1 _ I1 hA) fun us s2 ⟨vs, H2, I2, r, μ2, h2, avs, hr2, rvs, p2⟩ => ⟨I2.kIn, ?_⟩) (hs_of hp) (hpl_of hp)
      exact run_fnA C hr tk I2 hr2 rvs r p2
  | clo j cs =>
    obtain ⟨f, ws, rfl, hc, ro⟩ := rv
    obtain rfl : u = Value.ref f := r1
    cases es with
    | nil =>
      have p1 : Post R W σ μ1 H1 (bind (a env) (c (.clo j cs)) h1) Q := p1
      rw [h0 rfl] at p1
      have p1 : Post R W σ μ1 H1 (c (.clo j cs) [] h1) Q := p1
      exact PySem.W.callWith_F0 (cloFn I1 hc) (run_cloA (us := []) (vs := []) (avs := []) C hr tk I1 hr1 hc ro rfl .nil p1)
    | cons e r =>
      have hA : rdA R W a σ H1 (fun vs H2 => ∃ μ2 h2 avs, HRel R μ2 h2 H2 ∧ CloAt R μ2 H2 j f ws ∧ RepO R μ2 H2 cs ws ∧ RepL R μ2 H2 avs vs ∧ Post R W σ μ2 H2 (c (.clo j cs) avs h2) Q) :=
        rdA_bind S1 hr1 p1 fun avs h2 μ2 H2 vs ev S2 hr2 rvs p => ⟨μ2, h2, avs, hr2, hc.ev ev, ro.ev hr1.cells ev, rvs, p⟩
      refine PySem.W.callWith_F (first := []) (cloFn I1 hc) (thn (ha.run pos pins s1 σ H1 _ I1 hA) fun us s2 ⟨vs, H2, I2, r, μ2, h2, avs, hr2, hc2, ro2, rvs, p2⟩ => ⟨cloFn I2 hc2, ?_⟩) (hs_of hp) (hpl_of hp)
      exact run_cloA C hr tk I2 hr2 hc2 ro2 rvs r p2
  | _ => exact p1.elim
end
end Tp
end
section
set_option Elab.async false
set_option linter.all false
set_option maxRecDepth 100000
set_option maxHeartbeats 1000000

namespace Tp
open PySem PySem.Spec PyProof.Rows L2
abbrev LP := List (Str × Value)
theorem loop_kw {f : Str × Value → LP × LP → Sem (ForInStep (LP × LP))} {ex : LP} :
    ∀ (kw sl : LP), (∀ q sl, q ∈ kw → sl.lookup q.1 = none → f q (sl, ex) = pure (.yield (sl ++ [q], ex))) → (∀ i q, kw[i]? = some q → (sl ++ kw.take i).lookup q.1 = none) →
      forIn kw (sl, ex) f = pure (sl ++ kw, ex)
  | [], sl, _, _ => by rw [List.forIn_nil, List.append_nil]
  | q :: kw, sl, hf, hn => by
    have h0 := hn 0 q rfl
    rw [List.take_zero, List.append_nil] at h0
    rw [List.forIn_cons, hf q sl List.mem_cons_self h0]
    show forIn kw (sl ++ [q], ex) f = _
    rw [loop_kw kw (sl ++ [q]) (fun q' sl' hq => hf q' sl' (List.mem_cons_of_mem _ hq)) fun i q' hi => by
      have h1 := hn (i + 1) q' (by simpa using hi)
      rw [List.append_assoc]
      exact h1]
    rw [List.append_assoc]
    rfl
theorem bind_gen {fd : FuncData} {ps : List Str} {us : List Value} {kw : LP} (hp : plainPs fd.params = true) (hps : fd.params.args.map (·.arg) = ps) (hd : fd.defaults = .none) (hl : us.length ≤ ps.length) (hin : ∀ q ∈ kw, q.1 ∈ ps) (hn : ∀ i q, kw[i]? = some q → (ps.zip us ++ kw.take i).lookup q.1 = none)
    (hall : ∀ p ∈ ps, ((ps.zip us ++ kw).lookup p).isSome = true) : bindArgs fd ⟨us, kw⟩ = pure (ps.filterMap fun n => ((ps.zip us ++ kw).lookup n).map (n, ·)) := by
  unfold plainPs at hp
  simp only [Bool.and_eq_true, List.isEmpty_iff, Option.isNone_iff_eq_none] at hp
  obtain ⟨⟨⟨⟨⟨h1, h2⟩, h3⟩, h4⟩, h5⟩, h6⟩ := hp
  unfold bindArgs
  simp only [h1, h2, h3, h5, hd, hps, List.map_nil, List.nil_append, List.append_nil]
  rw [loop_kw (ex := []) kw (ps.zip us) (fun q sl hq hs => by
    have e1 : (ps.contains q.1 || ([] : List Str).contains q.1) = true := by simp [hin q hq]
    rw [if_pos e1]
    have e2 : ¬ ((List.lookup q.1 sl).isSome = true) := by simp [hs]
    rw [if_neg e2]) hn]
  have hs : seqItems? Value.none = pure none := rfl
  have hg : ¬ ((decide (us.length > ps.length) && (none : Option Arg).isNone) = true) := by simp; omega
  have hm : (!((ps.take (ps.length - 0)).filter fun n => ((ps.zip us ++ kw).lookup n).isNone).isEmpty) = false := by
    simp only [Bool.not_eq_false', List.isEmpty_iff, List.filter_eq_nil_iff]
    intro p hp
    have := hall p (List.mem_of_mem_take hp)
    simpa [Option.isSome_iff_ne_none, Option.isNone_iff_eq_none] using this
  simp only [pure_bind, hs, Option.getD_none]
  rw [if_neg hg]
  simp only [List.drop_nil, List.length_nil, List.drop_zero] at hm ⊢
  rw [hm]
  simp

theorem fm_zip {sl : LP} : ∀ {ps : List Str} {zs : List Value}, zs.length = ps.length → (∀ (i : Nat) (p : Str) (z : Value), ps[i]? = some p → zs[i]? = some z → sl.lookup p = some z) → (ps.filterMap fun n => (sl.lookup n).map (n, ·)) = ps.zip zs
  | [], [], _, _ => rfl
  | p :: ps, z :: zs, hl, h => by
    have h0 := h 0 p z rfl rfl
    rw [List.filterMap_cons, h0]
    show (p, z) :: _ = (p, z) :: _
    rw [fm_zip (ps := ps) (zs := zs) (by simpa using hl) fun i q y h1 h2 => h (i + 1) q y (by simpa using h1) (by simpa using h2)]
    rfl
  | [], _ :: _, hl, _ => by simp at hl
  | _ :: _, [], hl, _ => by simp at hl
theorem zip_look {ps : List Str} {us : List Value} (nd : ps.Nodup) : ∀ {i : Nat} {p : Str} {u : Value}, ps[i]? = some p → us[i]? = some u → (ps.zip us).lookup p = some u := by
  induction ps generalizing us with
  | nil => intro i p u h; simp at h
  | cons q ps ih =>
    intro i p u h1 h2
    cases us with
    | nil => simp at h2
    | cons v us =>
      rw [List.zip_cons_cons, List.lookup_cons]
      cases i with
      | zero =>
        simp at h1 h2
        subst h1 h2
        simp
      | succ i =>
        have h1' : ps[i]? = some p := by simpa using h1
        have ne : (p == q) = false := by
          refine beq_eq_false_iff_ne.mpr fun e => (List.nodup_cons.mp nd).1 ?_
          rw [← e]
          exact List.mem_of_getElem? h1'
        rw [ne]
        exact ih (List.nodup_cons.mp nd).2 h1' (by simpa using h2)
theorem zip_none {ps : List Str} {us : List Value} {p : Str} (h : p ∉ ps.take us.length) : (ps.zip us).lookup p = none := by
  induction ps generalizing us with
  | nil => rfl
  | cons q ps ih =>
    cases us with
    | nil => rfl
    | cons v us =>
      rw [List.zip_cons_cons, List.lookup_cons]
      simp only [List.length_cons, List.take_succ_cons, List.mem_cons, not_or] at h
      have ne : (p == q) = false := beq_eq_false_iff_ne.mpr h.1
      rw [ne]
      exact ih h.2
theorem look_app {l1 l2 : LP} {p : Str} : (l1 ++ l2).lookup p = match l1.lookup p with
    | some v => some v
    | none => l2.lookup p := by
  rw [List.lookup_append]
  cases l1.lookup p <;> rfl
theorem orderGo_get {l : LP} : ∀ {ps : List Str} {vs : List Value}, orderGo l ps = some vs → vs.length = ps.length ∧ ∀ (i : Nat) (p : Str) (v : Value), ps[i]? = some p → vs[i]? = some v → l.lookup p = some v
  | [], vs, e => by
    cases e
    exact ⟨rfl, fun i p v h => by simp at h⟩
  | q :: ps, vs, e => by
    unfold orderGo at e
    cases e1 : l.lookup q with
    | none => rw [e1] at e; cases e
    | some v0 =>
      cases e2 : orderGo l ps with
      | none => rw [e1, e2] at e; cases e
      | some ws =>
        rw [e1, e2] at e
        cases e
        obtain ⟨h1, h2⟩ := orderGo_get e2
        refine ⟨by simp [h1], fun i p v hi hv => ?_⟩
        cases i with
        | zero =>
          simp at hi hv
          subst hi hv
          exact e1
        | succ i => exact h2 i p v (by simpa using hi) (by simpa using hv)
theorem zip_fst_mem {ks : List Str} {ws : List Value} {q : Str × Value} (h : q ∈ ks.zip ws) : q.1 ∈ ks := (List.of_mem_zip (show (q.1, q.2) ∈ ks.zip ws from h)).1
theorem zipk_none {ks : List Str} {ws : List Value} (nd : ks.Nodup) {i : Nat} {q : Str × Value} (h : (ks.zip ws)[i]? = some q) : ((ks.zip ws).take i).lookup q.1 = none := by
  induction ks generalizing ws i with
  | nil => simp at h
  | cons k ks ih =>
    cases ws with
    | nil => simp at h
    | cons w ws =>
      cases i with
      | zero => rfl
      | succ i =>
        rw [List.zip_cons_cons, List.take_succ_cons, List.lookup_cons]
        have h' : (ks.zip ws)[i]? = some q := by simpa using h
        have ne : (q.1 == k) = false := by
          refine beq_eq_false_iff_ne.mpr fun e => (List.nodup_cons.mp nd).1 ?_
          rw [← e]
          exact zip_fst_mem (List.mem_of_getElem? h')
        rw [ne]
        exact ih (List.nodup_cons.mp nd).2 h'
theorem bind_order {fd : FuncData} {ps ks : List Str} {us ws zs : List Value} (hp : plainPs fd.params = true) (hps : fd.params.args.map (·.arg) = ps) (hd : fd.defaults = .none) (nd : ps.Nodup) (ho : order ps ks us ws = some zs) : bindArgs fd ⟨us, ks.zip ws⟩ = pure (ps.zip zs) := by
  unfold order at ho
  split at ho
  · rename_i hc
    obtain ⟨c1, c2, c3, c4⟩ := hc
    cases e : orderGo (ks.zip ws) (ps.drop us.length) with
    | none => rw [e] at ho; cases ho
    | some vs =>
      rw [e] at ho
      cases ho
      obtain ⟨g1, g2⟩ := orderGo_get e
      have hdrop : ∀ k ∈ ks, k ∈ ps.drop us.length := fun k hk => by
        have := List.all_eq_true.mp c3 k hk
        simpa using this
      have hnt : ∀ k, k ∈ ps.drop us.length → k ∉ ps.take us.length := fun k h1 h2 => by
        have q : (ps.take us.length ++ ps.drop us.length).Nodup := by rw [List.take_append_drop]; exact nd
        exact (List.nodup_append.mp q).2.2 k h2 k h1 rfl
      have len : (us ++ vs).length = ps.length := by
        rw [List.length_append, g1, List.length_drop]
        omega
      have look : ∀ (i : Nat) (p : Str) (z : Value), ps[i]? = some p → (us ++ vs)[i]? = some z → (ps.zip us ++ ks.zip ws).lookup p = some z := fun i p z h1 h2 => by
        rw [look_app]
        by_cases hi : i < us.length
        · rw [List.getElem?_append_left hi] at h2
          rw [zip_look nd h1 h2]
        · rw [List.getElem?_append_right (by omega)] at h2
          have h3 : (ps.drop us.length)[i - us.length]? = some p := by
            rw [List.getElem?_drop, show us.length + (i - us.length) = i by omega]
            exact h1
          rw [zip_none (hnt p (List.mem_of_getElem? h3))]
          exact g2 _ p z h3 h2
      rw [bind_gen hp hps hd (by omega) (fun q hq => List.mem_of_mem_drop (hdrop q.1 (zip_fst_mem hq))) (fun i q hq => ?_) (fun p hp => ?_)]
      · congr 1
        exact fm_zip len look
      · rw [look_app, zip_none (hnt q.1 (hdrop q.1 (zip_fst_mem (List.mem_of_getElem? hq))))]
        exact zipk_none c4 hq
      · obtain ⟨i, hi⟩ := List.mem_iff_getElem?.mp hp
        have hil : i < (us ++ vs).length := by
          rw [len]
          exact (List.getElem?_eq_some_iff.mp hi).1
        rw [look i p _ hi (List.getElem?_eq_getElem hil)]
        rfl
  · cases ho
theorem order_all {α : Type} {ps : List Str} {us : List α} (h : us.length = ps.length) : order ps [] us [] = some us := by
  unfold order
  rw [if_pos ⟨by simpa using h, rfl, rfl, List.nodup_nil⟩]
  rw [List.drop_eq_nil_of_le (by omega)]
  simp [orderGo]
theorem bind_all {fd : FuncData} {ps : List Str} {us : List Value} (hp : plainPs fd.params = true) (hps : fd.params.args.map (·.arg) = ps) (hd : fd.defaults = .none) (nd : ps.Nodup) (hl : us.length = ps.length) : bindArgs fd ⟨us, []⟩ = pure (ps.zip us) := bind_order (ks := []) (ws := []) hp hps hd nd (order_all hl)
end Tp
end
section
set_option Elab.async false
set_option linter.all false
set_option maxRecDepth 100000
set_option maxHeartbeats 1000000

namespace Tp
open PySem PySem.Spec PyProof.Rows L2 LamX

def unt (T : List Addr) (H : Hp) : Hp := fun b => if b ∈ T then none else H b
def UntOk (T : List Addr) (H : Hp) : Prop := ∀ a ∈ T, H a = none ∨ ∃ co, H a = some (.frz co (.own 0))
section
variable {R : Rx} {T : List Addr} {μ : List Addr} {H : Hp}
theorem unt_in {a : Addr} (h : a ∈ T) : unt T H a = none := if_pos h
theorem unt_out {a : Addr} (h : a ∉ T) : unt T H a = H a := if_neg h
theorem unt_keep (ok : UntOk T H) {a : Addr} {o : HO} (h : H a = some o) (n : ∀ co, o ≠ .frz co (.own 0)) : unt T H a = some o := by
  rw [unt_out]
  · exact h
  · intro z
    rcases ok a z with e | ⟨co, e⟩
    · rw [h] at e; cases e
    · rw [h] at e; exact n co (Option.some.inj e)
theorem unt_none {a : Addr} (h : H a = none) : unt T H a = none := by
  unfold unt
  split
  · rfl
  · exact h
theorem unt_of {a : Addr} {o : HO} (h : unt T H a = some o) : a ∉ T ∧ H a = some o := by
  unfold unt at h
  split at h
  · cases h
  · rename_i n; exact ⟨n, h⟩
theorem Rd_unt (ok : UntOk T H) {a : Addr} {u : HO} (h : Rd H a u) (n : ∀ x, u ≠ .own x) (n2 : ∀ co x, u ≠ .frz co (.own x)) : Rd (unt T H) a u := by
  rcases h with h | ⟨o, h⟩
  · exact .inl (unt_keep ok h fun co => n2 co 0)
  · exact .inr ⟨o, unt_keep ok h fun co z => by injection z with z1 z2; exact n 0 z2⟩
mutual
theorem Rep.unt (ok : UntOk T H) : ∀ {av : AV} {v : V}, av.noC = true → Rep R μ H av v → Rep R μ (unt T H) av v
  | .non, _, _, h => h
  | .bl _, _, _, h => h
  | .int _, _, _, h => h
  | .str _, _, _, h => h
  | .tup xs, v, c, h => by
    obtain ⟨a, vs, e1, h1, h2⟩ := h
    refine ⟨a, vs, e1, ?_, RepL.unt ok (by simpa [AV.noC] using c) h2⟩
    rcases h1 with h1 | h1
    · exact .inl (Rd_unt ok h1 (fun x z => by cases z) fun co x z => by cases z)
    · exact .inr h1
  | .lst xs, v, c, h => by
    obtain ⟨a, vs, e1, h1, n, h2⟩ := h
    exact ⟨a, vs, e1, Rd_unt ok h1 (fun x z => by cases z) (fun co x z => by cases z), n, RepL.unt ok (by simpa [AV.noC] using c) h2⟩
  | .ref n, v, _, h => h
  | .fn _, _, _, h => h
  | .cls _, _, _, h => h
  | .xcls _, _, _, h => h
  | .ty _, _, _, h => h
  | .exc k x, v, c, h => by
    obtain ⟨a, d, f, u, h1, h2, h3, h4, n, h5⟩ := h
    exact ⟨a, d, f, u, h1, h2, h3, unt_keep ok h4 (fun co z => by cases z), n, Rep.unt ok (by simpa [AV.noC] using c) h5⟩
  | .obj k fs, v, c, h => by
    obtain ⟨a, dx, fs', e1, h1, n, k1, h2⟩ := h
    exact ⟨a, dx, fs', e1, unt_keep ok h1 (fun co z => by cases z), n, k1, RepF.unt ok (by simpa [AV.noC] using c) h2⟩
  | .clo i cs, v, c, h => by simp [AV.noC] at c
  | .dct _, _, _, h => h
theorem RepL.unt (ok : UntOk T H) : ∀ {xs : List AV} {vs : List V}, AV.noCs xs = true → RepL R μ H xs vs → RepL R μ (unt T H) xs vs
  | [], _, _, h => h
  | x :: xs, vs, c, h => by
    have c' : x.noC = true ∧ AV.noCs xs = true := by simpa [AV.noCs] using c
    obtain ⟨v, r, e1, h1, h2⟩ := h
    exact ⟨v, r, e1, Rep.unt ok c'.1 h1, RepL.unt ok c'.2 h2⟩
theorem RepF.unt (ok : UntOk T H) : ∀ {xs : List (Str × AV)} {vs : List (Str × V)}, AV.noCf xs = true → RepF R μ H xs vs → RepF R μ (unt T H) xs vs
  | [], _, _, h => h
  | (f, x) :: xs, vs, c, h => by
    have c' : x.noC = true ∧ AV.noCf xs = true := by simpa [AV.noCf] using c
    obtain ⟨v, r, e1, h1, h2⟩ := h
    exact ⟨v, r, e1, Rep.unt ok c'.1 h1, RepF.unt ok c'.2 h2⟩
end
theorem RepO.unt (ok : UntOk T H) : ∀ {xs : List (Option AV)} {vs : List (Option V)}, AV.noCo xs = true → RepO R μ H xs vs → RepO R μ (Tp.unt T H) xs vs
  | [], _, _, h => h
  | none :: xs, vs, c, h => by
    obtain ⟨v, r, e1, h2⟩ := h
    exact ⟨v, r, e1, RepO.unt ok (by simpa [AV.noCo] using c) h2⟩
  | some x :: xs, vs, c, h => by
    have c' : x.noC = true ∧ AV.noCo xs = true := by simpa [AV.noCo] using c
    obtain ⟨v, r, e1, h1, h2⟩ := h
    exact ⟨v, r, e1, h1.unt ok c'.1, RepO.unt ok c'.2 h2⟩
mutual
theorem pure_noC : ∀ (v : AV), v.pure = true → v.noC = true
  | .non, _ | .bl _, _ | .int _, _ | .str _, _ | .ref _, _ | .fn _, _ | .cls _, _ | .xcls _, _ | .ty _, _ | .dct _, _ => by simp [AV.noC]
  | .tup xs, h => by
    have := pure_noCs xs (by simpa [AV.pure] using h)
    simpa [AV.noC] using this
  | .lst xs, h => by
    have := pure_noCs xs (by simpa [AV.pure] using h)
    simpa [AV.noC] using this
  | .exc c x, h => by simp [AV.pure] at h
  | .obj k fs, h => by
    have := pure_noCf fs (by simpa [AV.pure] using h)
    simpa [AV.noC] using this
  | .clo l cs, h => by simp [AV.pure] at h
theorem pure_noCs : ∀ (xs : List AV), AV.pureAll xs = true → AV.noCs xs = true
  | [], _ => by simp [AV.noCs]
  | x :: xs, h => by
    have h' : x.pure = true ∧ AV.pureAll xs = true := by simpa [AV.pureAll] using h
    simp [AV.noCs, pure_noC x h'.1, pure_noCs xs h'.2]
theorem pure_noCf : ∀ (xs : List (Str × AV)), AV.pureF xs = true → AV.noCf xs = true
  | [], _ => by simp [AV.noCf]
  | (f, x) :: xs, h => by
    have h' : x.pure = true ∧ AV.pureF xs = true := by simpa [AV.pureF] using h
    simp [AV.noCf, pure_noC x h'.1, pure_noCf xs h'.2]
end
theorem HRel.unt {h : AHp} (hr : HRel R μ h H) (ok : UntOk T H) : HRel R μ h (unt T H) := by
  refine ⟨hr.len, hr.nd, fun i ob a h1 h2 => ?_, fun p hp => ?_, fun b hb => ?_⟩
  · have q := hr.obj i ob a h1 h2
    cases ob with
    | lst xs =>
      obtain ⟨vs, z, r, pu⟩ := q
      exact ⟨vs, unt_keep ok z (fun co z => by cases z), r.unt ok (pure_noCs _ pu), pu⟩
    | ins k fs =>
      obtain ⟨dx, fs', z, n, r, pu⟩ := q
      exact ⟨dx, fs', unt_keep ok z (fun co z => by cases z), n, r.unt ok (pure_noCf _ pu), pu⟩
    | dct kvs => exact q.elim
  · obtain ⟨ps, h1, h2, h3⟩ := hr.tabs p hp
    refine ⟨ps, unt_keep ok h1 (fun co z => by cases z), h2, fun pos cv hc => ?_⟩
    obtain ⟨c', e1, e2⟩ := h3 pos cv hc
    exact ⟨c', e1, unt_keep ok e2 fun co z => by unfold LamX.CodeO at z; cases z⟩
  · obtain ⟨n, xs, z⟩ := hr.hid b hb
    exact ⟨n, xs, unt_keep ok z (fun co z => by cases z)⟩

theorem Ev.wider {H' : Hp} (e : ∀ a o, H a = some o → H' a = some o) : Ev μ H μ H' := ⟨⟨[], by simp, fun a h => by cases h⟩, fun a o h _ _ => e a o h, fun a o h => ⟨o, e a o h⟩⟩
theorem HRel.wider {h : AHp} {H' : Hp} (hr : HRel R μ h H) (e : ∀ a o, H a = some o → H' a = some o) : HRel R μ h H' := by
  have ev : Ev μ H μ H' := Ev.wider e
  have c := hr.cells
  refine ⟨hr.len, hr.nd, fun i ob a h1 h2 => ?_, hr.tabs.ext e, fun b hb => let ⟨n, xs, z⟩ := hr.hid b hb; ⟨n, xs, e _ _ z⟩⟩
  have q := hr.obj i ob a h1 h2
  cases ob with
  | lst xs =>
    obtain ⟨vs, z, r, pu⟩ := q
    exact ⟨vs, e _ _ z, r.ev c ev, pu⟩
  | ins k fs =>
    obtain ⟨dx, fs', z, n, r, pu⟩ := q
    exact ⟨dx, fs', e _ _ z, n, r.ev c ev, pu⟩
  | dct kvs => exact q.elim

theorem Ev.unt {H' H2 : Hp} {μ2 : List Addr} (w : ∀ a o, H a = some o → H' a = some o) (nT : ∀ a ∈ T, H a = none) (wT : ∀ a, H a = none → a ∉ T → H' a = none) (oT : ∀ a ∈ T, ∃ o, H' a = some o) (e : Ev μ H' μ2 H2) : Ev μ H μ2 (unt T H2) := by
  have inT : ∀ a o, H a = some o → a ∉ T := fun a o h z => by
    rw [nT a z] at h; cases h
  refine ⟨?_, fun a o h n t => ?_, fun a o h => ?_⟩
  · obtain ⟨ext, e1, e2⟩ := e.pre
    refine ⟨ext, e1, fun a ha => ?_⟩
    cases q : H a with
    | none => rfl
    | some o =>
      have := w a o q
      rw [e2 a ha] at this
      cases this
  · rw [unt_out (inT a o h)]
    exact e.keep a o (w a o h) n t
  · obtain ⟨o', z⟩ := e.there a o (w a o h)
    exact ⟨o', by rw [unt_out (inT a o h)]; exact z⟩
end
end Tp
end
section
set_option Elab.async false
set_option linter.all false
set_option maxRecDepth 100000
set_option maxHeartbeats 1000000

namespace Tp
open PySem PySem.Spec PyProof.Rows L2
section
variable {R : Rx} {μ ext : List Addr} {H : Hp}

mutual
theorem Rep.subP {μ1 μ2 : List Addr} (sub : ∀ x ∈ μ2, x ∈ μ1) : ∀ {av : AV} {v : V}, av.pure = true → Rep R μ1 H av v → Rep R μ2 H av v
  | .non, _, _, h => h
  | .bl _, _, _, h => h
  | .int _, _, _, h => h
  | .str _, _, _, h => h
  | .tup xs, v, c, h => by
    obtain ⟨a, vs, e1, h1, h2⟩ := h
    exact ⟨a, vs, e1, h1, RepL.subP sub (by simpa [AV.pure] using c) h2⟩
  | .lst xs, v, c, h => by
    obtain ⟨a, vs, e1, h1, n, h2⟩ := h
    exact ⟨a, vs, e1, h1, ⟨fun z => n.1 (sub _ z), n.2⟩, RepL.subP sub (by simpa [AV.pure] using c) h2⟩
  | .ref k, v, c, h => by simp [AV.pure] at c
  | .fn _, _, _, h => h
  | .cls _, _, _, h => h
  | .xcls _, _, _, h => h
  | .ty _, _, _, h => h
  | .exc k x, v, c, h => by simp [AV.pure] at c
  | .obj k fs, v, c, h => by
    obtain ⟨a, dx, fs', e1, h1, n, k1, h2⟩ := h
    exact ⟨a, dx, fs', e1, h1, fun z => n (sub _ z), k1, RepF.subP sub (by simpa [AV.pure] using c) h2⟩
  | .clo i cs, v, c, h => by simp [AV.pure] at c
  | .dct _, _, _, h => h
theorem RepL.subP {μ1 μ2 : List Addr} (sub : ∀ x ∈ μ2, x ∈ μ1) : ∀ {xs : List AV} {vs : List V}, AV.pureAll xs = true → RepL R μ1 H xs vs → RepL R μ2 H xs vs
  | [], _, _, h => h
  | x :: xs, vs, c, h => by
    have c' : x.pure = true ∧ AV.pureAll xs = true := by simpa [AV.pureAll] using c
    obtain ⟨v, r, e1, h1, h2⟩ := h
    exact ⟨v, r, e1, Rep.subP sub c'.1 h1, RepL.subP sub c'.2 h2⟩
theorem RepF.subP {μ1 μ2 : List Addr} (sub : ∀ x ∈ μ2, x ∈ μ1) : ∀ {xs : List (Str × AV)} {vs : List (Str × V)}, AV.pureF xs = true → RepF R μ1 H xs vs → RepF R μ2 H xs vs
  | [], _, _, h => h
  | (f, x) :: xs, vs, c, h => by
    have c' : x.pure = true ∧ AV.pureF xs = true := by simpa [AV.pureF] using c
    obtain ⟨v, r, e1, h1, h2⟩ := h
    exact ⟨v, r, e1, Rep.subP sub c'.1 h1, RepF.subP sub c'.2 h2⟩
end
theorem ObjRep.sub {μ1 μ2 : List Addr} (sub : ∀ x ∈ μ2, x ∈ μ1) {o : AObj} {a : Addr} (h : ObjRep R μ1 H o a) : ObjRep R μ2 H o a := by
  cases o with
  | lst xs =>
    obtain ⟨vs, z, r, p⟩ := h
    exact ⟨vs, z, r.subP sub p, p⟩
  | ins c fs =>
    obtain ⟨dx, ws, z, k, r, p⟩ := h
    exact ⟨dx, ws, z, k, r.subP sub p, p⟩
  | dct kvs => exact h
theorem subL {μ ext : List Addr} : ∀ x ∈ μ, x ∈ μ ++ ext := fun x h => List.mem_append_left _ h
theorem Rep.shrinkP {av : AV} {v : V} (c : av.pure = true) (h : Rep R (μ ++ ext) H av v) : Rep R μ H av v := h.subP subL c
theorem RepL.shrinkP {xs : List AV} {vs : List V} (c : AV.pureAll xs = true) (h : RepL R (μ ++ ext) H xs vs) : RepL R μ H xs vs := h.subP subL c
theorem RepF.shrinkP {xs : List (Str × AV)} {vs : List (Str × V)} (c : AV.pureF xs = true) (h : RepF R (μ ++ ext) H xs vs) : RepF R μ H xs vs := h.subP subL c
mutual
theorem Rep.shrink {n0 : Nat} (hn : μ.length = n0) : ∀ {av : AV} {v : V}, av.old n0 = true → Rep R (μ ++ ext) H av v → Rep R μ H av v
  | .non, _, _, h => h
  | .bl _, _, _, h => h
  | .int _, _, _, h => h
  | .str _, _, _, h => h
  | .tup xs, v, c, h => by
    obtain ⟨a, vs, e1, h1, h2⟩ := h
    exact ⟨a, vs, e1, h1, RepL.shrink hn (by simpa [AV.old] using c) h2⟩
  | .lst xs, v, c, h => by
    obtain ⟨a, vs, e1, h1, n, h2⟩ := h
    exact ⟨a, vs, e1, h1, ⟨fun z => n.1 (List.mem_append_left _ z), n.2⟩, RepL.shrink hn (by simpa [AV.old] using c) h2⟩
  | .ref k, v, c, h => by
    obtain ⟨a, h1, e1⟩ := h
    have hk : k < n0 := by simpa [AV.old] using c
    exact ⟨a, by rw [List.getElem?_append_left (by omega)] at h1; exact h1, e1⟩
  | .fn _, _, _, h => h
  | .cls _, _, _, h => h
  | .xcls _, _, _, h => h
  | .ty _, _, _, h => h
  | .exc k x, v, c, h => by simp [AV.old] at c
  | .obj k fs, v, c, h => by
    obtain ⟨a, dx, fs', e1, h1, n, k1, h2⟩ := h
    exact ⟨a, dx, fs', e1, h1, fun z => n (List.mem_append_left _ z), k1, RepF.shrinkP (by simpa [AV.old] using c) h2⟩
  | .clo i cs, v, c, h => by simp [AV.old] at c
  | .dct _, _, _, h => h
theorem RepL.shrink {n0 : Nat} (hn : μ.length = n0) : ∀ {xs : List AV} {vs : List V}, AV.oldAll n0 xs = true → RepL R (μ ++ ext) H xs vs → RepL R μ H xs vs
  | [], _, _, h => h
  | x :: xs, vs, c, h => by
    have c' : x.old n0 = true ∧ AV.oldAll n0 xs = true := by simpa [AV.oldAll] using c
    obtain ⟨v, r, e1, h1, h2⟩ := h
    exact ⟨v, r, e1, Rep.shrink hn c'.1 h1, RepL.shrink hn c'.2 h2⟩
end
theorem ObjRep.shrink {o : AObj} {a : Addr} (h : ObjRep R (μ ++ ext) H o a) : ObjRep R μ H o a := by
  cases o with
  | lst xs =>
    obtain ⟨vs, z, r, p⟩ := h
    exact ⟨vs, z, r.shrinkP p, p⟩
  | ins c fs =>
    obtain ⟨dx, ws, z, k, r, p⟩ := h
    exact ⟨dx, ws, z, k, r.shrinkP p, p⟩
  | dct kvs => exact h
theorem HRel.take {h : AHp} (hr : HRel R (μ ++ ext) h H) : HRel R μ (h.take μ.length) H := by
  have hl := hr.len
  rw [List.length_append] at hl
  refine ⟨by rw [List.length_take]; omega, (List.nodup_append.mp hr.nd).1, fun i o a h1 h2 => ?_, hr.tabs, fun b hb => ⟨fun z => (hr.hid b hb).1 (List.mem_append_left _ z), (hr.hid b hb).2⟩⟩
  have hi : i < μ.length := (List.getElem?_eq_some_iff.mp h2).1
  rw [List.getElem?_take_of_lt hi] at h1
  exact (hr.obj i o a h1 (by rw [List.getElem?_append_left hi]; exact h2)).shrink
theorem Ev.shrink {μ0 : List Addr} {H0 : Hp} {μ1 : List Addr} (e : Ev μ0 H0 μ1 H) : Ev μ0 H0 μ0 H := ⟨⟨[], by simp, fun a h => by cases h⟩, e.keep, e.there⟩

mutual
theorem Rep.frz {h : AHp} (hr : HRel R (μ ++ ext) h H) : ∀ {av : AV} {v : V}, (av.frz h μ.length).old μ.length = true → Rep R (μ ++ ext) H av v → Rep R μ H (av.frz h μ.length) v
  | .non, _, _, r => r
  | .bl _, _, _, r => r
  | .int _, _, _, r => r
  | .str _, _, _, r => r
  | .tup xs, v, c, r => by
    obtain ⟨a, vs, e1, h1, h2⟩ := r
    exact ⟨a, vs, e1, h1, RepL.frz hr (by simpa [AV.frz, AV.old] using c) h2⟩
  | .lst xs, v, c, r => by
    obtain ⟨a, vs, e1, h1, n, h2⟩ := r
    exact ⟨a, vs, e1, h1, ⟨fun z => n.1 (List.mem_append_left _ z), n.2⟩, RepL.frz hr (by simpa [AV.frz, AV.old] using c) h2⟩
  | .ref k, v, c, r => by
    obtain ⟨a, h1, e1⟩ := r
    by_cases hk : k < μ.length
    · have e : (AV.ref k).frz h μ.length = .ref k := by unfold AV.frz; rw [if_pos hk]
      rw [e]
      exact ⟨a, by rw [List.getElem?_append_left hk] at h1; exact h1, e1⟩
    · cases q : h[k]? with
      | none =>
        have e : (AV.ref k).frz h μ.length = .ref k := by unfold AV.frz; rw [if_neg hk, q]
        rw [e] at c
        simp [AV.old] at c
        omega
      | some o =>
        have e : (AV.ref k).frz h μ.length = o.val := by unfold AV.frz; rw [if_neg hk, q]
        rw [e] at c ⊢
        have ho := hr.obj k o a q h1
        have na : a ∉ μ := fun z => by
          have hx : a ∈ ext := by
            rw [List.getElem?_append_right (by omega)] at h1
            exact List.mem_of_getElem? h1
          exact (List.nodup_append.mp hr.nd).2.2 a z a hx rfl
        have off : Off R μ a := ⟨na, fun z => (hr.hid a z).1 (List.mem_of_getElem? h1)⟩
        cases o with
        | lst xs =>
          obtain ⟨vs, z, r, p⟩ := ho
          exact ⟨a, vs, e1, .of z, off, r.shrinkP p⟩
        | ins k fs =>
          obtain ⟨dx, ws, z, k1, r, p⟩ := ho
          exact ⟨a, dx, ws, e1, z, na, k1, r.shrinkP p⟩
        | dct kvs => exact ho.elim
  | .fn _, _, _, r => r
  | .cls _, _, _, r => r
  | .xcls _, _, _, r => r
  | .ty _, _, _, r => r
  | .exc k x, v, c, r => by simp [AV.frz, AV.old] at c
  | .obj k fs, v, c, r => by
    obtain ⟨a, dx, fs', e1, h1, n, k1, h2⟩ := r
    exact ⟨a, dx, fs', e1, h1, fun z => n (List.mem_append_left _ z), k1, RepF.shrinkP (by simpa [AV.frz, AV.old] using c) h2⟩
  | .clo i cs, v, c, r => by simp [AV.frz, AV.old] at c
  | .dct _, _, _, r => r
theorem RepL.frz {h : AHp} (hr : HRel R (μ ++ ext) h H) : ∀ {xs : List AV} {vs : List V}, AV.oldAll μ.length (AV.frzAll h μ.length xs) = true → RepL R (μ ++ ext) H xs vs → RepL R μ H (AV.frzAll h μ.length xs) vs
  | [], _, _, r => r
  | x :: xs, vs, c, r => by
    have c' : (x.frz h μ.length).old μ.length = true ∧ AV.oldAll μ.length (AV.frzAll h μ.length xs) = true := by simpa [AV.frzAll, AV.oldAll] using c
    obtain ⟨v, t, e1, h1, h2⟩ := r
    exact ⟨v, t, e1, Rep.frz hr c'.1 h1, RepL.frz hr c'.2 h2⟩
end
mutual
theorem pure_old (n : Nat) : ∀ (v : AV), v.pure = true → v.old n = true
  | .non, _ | .bl _, _ | .int _, _ | .str _, _ | .fn _, _ | .cls _, _ | .xcls _, _ | .ty _, _ => by simp [AV.old]
  | .ref k, h => by simp [AV.pure] at h
  | .dct kvs, h => by simpa [AV.old, AV.pure] using h
  | .tup xs, h => by
    have := pure_olds n xs (by simpa [AV.pure] using h)
    simpa [AV.old] using this
  | .lst xs, h => by
    have := pure_olds n xs (by simpa [AV.pure] using h)
    simpa [AV.old] using this
  | .exc c x, h => by simp [AV.pure] at h
  | .obj k fs, h => by simpa [AV.old, AV.pure] using h
  | .clo l cs, h => by simp [AV.pure] at h
theorem pure_olds (n : Nat) : ∀ (xs : List AV), AV.pureAll xs = true → AV.oldAll n xs = true
  | [], _ => by simp [AV.oldAll]
  | x :: xs, h => by
    have h' : x.pure = true ∧ AV.pureAll xs = true := by simpa [AV.pureAll] using h
    simp [AV.oldAll, pure_old n x h'.1, pure_olds n xs h'.2]
end
variable {E : XK}

theorem back_ok {H0 H1 : Hp} {keep : Bool} {v : AV} {h' : AHp} {Q : VK} {μ1 : List Addr} {w : V} (p : Post R (WofE E) [] μ H0 (back keep μ.length v h') Q) (e : Ev μ H0 μ1 H1) (hr : HRel R μ1 h' H1) (rv : Rep R μ1 H1 v w) : Q w H1 := by
  obtain ⟨ext, rfl, hx⟩ := e.pre
  have plain : (∀ k, keep = true → v ≠ .ref k) ∨ keep = false → Q w H1 := fun hk => by
    have e0 : back keep μ.length v h' = if (v.frz h' μ.length).old μ.length then .ok (v.frz h' μ.length) (h'.take μ.length) else .stuck := by
      rcases hk with hk | rfl
      · cases keep with
        | false => rfl
        | true =>
          unfold back
          split
          · rename_i k; exact absurd rfl (hk _ rfl)
          · rfl
      · rfl
    rw [e0] at p
    by_cases c : (v.frz h' μ.length).old μ.length = true
    · rw [if_pos c] at p
      exact p μ H1 w e.shrink hr.take (rv.frz hr c)
    · rw [if_neg c] at p; exact p.elim
  cases keep with
  | false => exact plain (.inr rfl)
  | true =>
    by_cases hv : ∃ k, v = .ref k
    · obtain ⟨k, rfl⟩ := hv
      by_cases hk : μ.length ≤ k
      · obtain ⟨a, h1, rfl⟩ := rv
        have hkl : k < h'.length := by
          rw [← hr.len]; exact (List.getElem?_eq_some_iff.mp h1).1
        have q : h'[k]? = some h'[k] := List.getElem?_eq_getElem hkl
        have e0 : back true μ.length (.ref k) h' = .ok (.ref μ.length) (h'.take μ.length ++ [h'[k]]) := by
          unfold back
          simp only
          rw [if_pos hk, q]
        rw [e0] at p
        have ha : a ∈ ext := by
          rw [List.getElem?_append_right hk] at h1
          exact List.mem_of_getElem? h1
        have na : a ∉ μ := fun z => (List.nodup_append.mp hr.nd).2.2 a z a ha rfl
        have sub : ∀ x ∈ μ ++ [a], x ∈ μ ++ ext := fun x hx => by
          rcases List.mem_append.mp hx with z | z
          · exact List.mem_append_left _ z
          · have : x = a := by simpa using z
            rw [this]; exact List.mem_append_right _ ha
        have hl := hr.len
        rw [List.length_append] at hl
        have r2 : HRel R (μ ++ [a]) (h'.take μ.length ++ [h'[k]]) H1 := by
          refine ⟨by rw [List.length_append, List.length_append, List.length_take, List.length_singleton, List.length_singleton]; omega, ?_, fun i o b g1 g2 => ?_, hr.tabs, fun b hb => ⟨fun z => (hr.hid b hb).1 (sub b z), (hr.hid b hb).2⟩⟩
          · rw [List.nodup_append]
            refine ⟨(List.nodup_append.mp hr.nd).1, by simp, fun x hx y hy z => ?_⟩
            have : y = a := by simpa using hy
            rw [z, this] at hx
            exact na hx
          · have ht : (h'.take μ.length).length = μ.length := by rw [List.length_take]; omega
            by_cases hi : i < μ.length
            · rw [List.getElem?_append_left (by omega), List.getElem?_take_of_lt hi] at g1
              rw [List.getElem?_append_left hi] at g2
              exact (hr.obj i o b g1 (by rw [List.getElem?_append_left hi]; exact g2)).sub sub
            · rw [List.getElem?_append_right (by omega)] at g1
              rw [List.getElem?_append_right (by omega)] at g2
              have i0 : i - μ.length = 0 := by
                cases hz : i - μ.length with
                | zero => rfl
                | succ m => rw [hz] at g2; simp at g2
              rw [ht, i0] at g1
              rw [i0] at g2
              simp at g1 g2
              subst g1 g2
              exact (hr.obj k _ _ q h1).sub sub
        refine p (μ ++ [a]) H1 (.ref a) ⟨⟨[a], rfl, fun b hb => ?_⟩, e.keep, e.there⟩ r2 ⟨a, ?_, rfl⟩
        · have : b = a := by simpa using hb
          rw [this]; exact hx a ha
        · rw [List.getElem?_append_right (Nat.le_refl _), Nat.sub_self]
          rfl
      · have e0 : back true μ.length (.ref k) h' = .ok (.ref k) (h'.take μ.length) := by
          unfold back
          simp only
          rw [if_neg hk]
        rw [e0] at p
        obtain ⟨a, h1, rfl⟩ := rv
        exact p μ H1 _ e.shrink hr.take ⟨a, by rw [List.getElem?_append_left (by omega)] at h1; exact h1, rfl⟩
    · exact plain (.inl fun k _ z => hv ⟨k, z⟩)
theorem backX_ok {H0 H1 : Hp} {c : Nat} {x : AV} {h' : AHp} {Q : VK} {μ1 : List Addr} {cls : Value} {d : Option Addr} (p : Post R (WofE E) [] μ H0 (backX μ.length c x h') Q) (e : Ev μ H0 μ1 H1) (hr : HRel R μ1 h' H1) (rx : ExcRep R μ1 H1 c x cls d) : E cls d H1 := by
  obtain ⟨ext, rfl, hx⟩ := e.pre
  unfold backX at p
  by_cases q : (x.frz h' μ.length).pure = true
  · rw [if_pos q] at p
    obtain ⟨r1, dd, f, u, r2, r3, r4, n, r5⟩ := rx
    exact p μ H1 cls d e.shrink hr.take ⟨r1, dd, f, u, r2, r3, r4, fun z => n (List.mem_append_left _ z), r5.frz hr (pure_old _ _ q)⟩
  · rw [if_neg q] at p; exact p.elim
end
end Tp
end
section
set_option Elab.async false
set_option linter.all false
set_option maxRecDepth 100000
set_option maxHeartbeats 1000000

namespace Tp
open PySem PySem.Spec PyProof.Rows L2 LamX

def ret' (T : List Addr) (H H1 : Hp) : Hp := fun b => if b ∈ T then H b else H1 b

def cellsOf (cl : List (Str × Addr)) : List Addr := cl.filterMap fun q => cl.lookup q.1
theorem mem_cellsOf {cl : List (Str × Addr)} {a : Addr} (h : a ∈ cellsOf cl) : ∃ y, cl.lookup y = some a := by
  obtain ⟨q, _, e⟩ := List.mem_filterMap.mp h
  exact ⟨_, e⟩
theorem cellsOf_mem {cl : List (Str × Addr)} {a : Addr} {y : Str} (h : cl.lookup y = some a) : a ∈ cellsOf cl := List.mem_filterMap.mpr ⟨(y, a), PySem.mem_of_lookup h, h⟩
theorem lamOk {l : LamInfo} (h : l.ok = true) : plainPs l.params = true ∧ l.params.args.map (·.arg) = l.ps ∧ NdefX.NScope l.NN l.ps l.fr l.scope := by
  unfold LamInfo.ok at h
  simp only [Bool.and_eq_true, beq_iff_eq, Bool.not_eq_true', decide_eq_true_eq, List.all_eq_true, Bool.or_eq_true, beq_eq_false_iff_ne] at h
  obtain ⟨⟨⟨⟨⟨⟨⟨⟨⟨h1, h2⟩, h3⟩, h4⟩, h5⟩, h6⟩, h7⟩, h8⟩, h9⟩, h10⟩ := h
  refine ⟨h1, h2, h3, h4, h5, h6, ?_, h7, h8, fun y hy e => ?_, h10⟩
  · unfold LamInfo.NN
    rw [← List.append_assoc, List.take_left' (by rw [List.length_append])]
  · rcases h9 y hy with z | z
    · exact absurd e z
    · simpa using z
section
variable {R : Rx} {P : Program} {w : World} {mg : Str → Option Value} {k : Nat}
abbrev lnf (l : LamInfo) (qual : Str) (cl : List (Str × Addr)) (c' : Addr) : NdefX.NF := ⟨"<lambda>", qual, l.params, [], l.scope, cl, c'⟩
abbrev lcx (R : Rx) (P : Program) (w : World) (mg : Str → Option Value) (l : LamInfo) (qual : Str) (cl : List (Str × Addr)) (c' f : Addr) (A : Around) (outer : List Env) (s : Shared) (H : Hp) (E : XK) : Cx :=
  NdefX.ncx (L2.CX P w) P w R.K mg R.base l.NN (lnf l qual cl c') f A outer s H E
theorem Env0.unt {A : Around} {outer : List Env} {s : Shared} {H : Hp} {T : List Addr} {K : PySem.W.Frag} {base : Heap} (e : Env0 P w K mg base A outer s H) (ok : UntOk T H) : Env0 P w K mg base A outer s (unt T H) :=
  ⟨e.frames, e.mod, fun b o h => ⟨(e.bs b o h).1, unt_none (e.bs b o h).2⟩, e.bsz, e.funs, fun b hb => unt_none (e.frf b hb), fun a o h => by
    obtain ⟨n, h⟩ := unt_of h
    exact (e.hok a o h).stay (fun _ _ _ q => q) (fun b q => unt_keep ok q (fun co z => by cases z)) fun b xs q => unt_keep ok q (fun co z => by cases z), e.bare⟩
theorem ret_of {T : List Addr} {H H1 : Hp} (nT : ∀ a ∈ T, H1 a = none) {a : Addr} {o : HO} (h : H1 a = some o) : ret' T H H1 a = some o := by
  unfold ret'
  rw [if_neg]
  · exact h
  · intro z
    rw [nT a z] at h; cases h
theorem clo_run {l : LamInfo} {m : DE}
    (hbody : ∀ (hid : List Addr) (A : Around) (outer : List Env) (s : Shared) (H : Hp) (E : XK) (f c' : Addr) (qual : Str) (cl : List (Str × Addr)), l.ok = true → Room k (A.deeper (NdefX.envF (lnf l qual cl c') f s.heap.objs.size)) →
      AE (R.wh hid) (lcx R P w mg l qual cl c' f A outer s H E) (WofE E) l.body m)
    (cs : List (Option AV)) (hid : List Addr) (A : Around) (outer : List Env) (s : Shared) (H : Hp) (f : Addr) (ws : List (Option V)) (us : List Value) (vs : List V) (avs : List AV) (μ : List Addr) (h : AHp) (Q : VK) (E : XK)
    (hr : Room (k + 1) A) (e0 : Env0 P w R.K mg R.base A outer s H) (hrel : HRel (R.wh hid) μ h H) (hc : CloAt (R.wh hid) μ H l f ws) (ro : RepO (R.wh hid) μ H cs ws) (ra : RepL (R.wh hid) μ H avs vs) (r : Vals vs us)
    (p : Post (R.wh hid) (WofE E) [] μ H (callClo l.ps.length l.own.length m cs avs h) Q) :
    codeAny (model P w) A (.call (.ref f) ⟨us, []⟩) (CR (L2.CX P w) outer P w H s Q E) s := by
  obtain ⟨qual, cl, pm, ctv, c', hok, h2, h3, n1, n2, hl, inj, hcl, hk⟩ := hc
  obtain ⟨lp, lps, S⟩ := lamOk hok
  unfold callClo at p
  by_cases hcond : avs.length = l.ps.length ∧ AV.noCs avs = true ∧ AV.noCo cs = true
  · rw [if_pos hcond] at p
    obtain ⟨q1, q2, q3⟩ := hcond
    -- the captured cells are let go for the while
    have ok : UntOk (cellsOf cl) H := fun a ha => by
      obtain ⟨y, hy⟩ := mem_cellsOf ha
      obtain ⟨v, co, hd, hco⟩ := hcl y a hy
      rcases hco with ⟨hco, _⟩ | hco
      · exact .inr ⟨co, hco⟩
      · exact .inl (e0.bs a co hco).2
    have isCell : ∀ {c v}, CellIs (R.wh hid) μ H c v → s.heap.IsCell c v := fun {c v} ⟨co, hd, q⟩ => by
      rcases q with ⟨q, _⟩ | q
      · obtain ⟨ho, _⟩ := (show ObjOk P w H s.heap c (.frz co (.own 0)) from e0.hok c _ q)
        exact ⟨co, ho, hd⟩
      · exact ⟨co, (e0.bs c co q).1, hd⟩
    have e1 : Env0 P w R.K mg R.base A outer s (unt (cellsOf cl) H) := Env0.unt e0 ok
    have C : NdefX.CellsAt cl l.fr ws s.heap (unt (cellsOf cl) H) := ⟨hl, fun y c e => by
      obtain ⟨v, q⟩ := hcl y c e
      exact ⟨unt_in (cellsOf_mem e), v, isCell q⟩, inj, fun i y e => by
      obtain ⟨c, g1, g2⟩ := hk i y e
      refine ⟨c, g1, fun v hv => ?_⟩
      obtain ⟨uv, ru, q⟩ := g2 v hv
      exact ⟨uv, ru, isCell q⟩⟩
    have rel1 := hrel.unt ok
    have ra1 := ra.unt ok q2
    have ro1 := ro.unt ok q3
    obtain ⟨ho, _⟩ := (show ObjOk P w H s.heap f (.frz _ _) from e0.hok f _ h2)
    have lim : s.heap.NoLimit := e0.mod.nolimit.keeps fun b o e => (e0.bs b o e).1
    have hvl : vs.length = l.ps.length := by rw [ra.length, q1]
    -- what is known again behind the body
    have back1 : ∀ {μ1 H1 h1}, Ev μ (unt (cellsOf cl) H) μ1 H1 → HRel (R.wh hid) μ1 h1 H1 → (∀ a ∈ cellsOf cl, H1 a = none) → Ev μ H μ1 (ret' (cellsOf cl) H H1) ∧ HRel (R.wh hid) μ1 h1 (ret' (cellsOf cl) H H1) := fun {μ1 H1 h1} ev hr1 nT => by
      refine ⟨⟨?_, fun a o g1 g2 g3 => ?_, fun a o g1 => ?_⟩, hr1.wider fun a o => ret_of nT⟩
      · obtain ⟨ext, g1, g2⟩ := ev.pre
        refine ⟨ext, g1, fun a ha => ?_⟩
        have z := g2 a ha
        cases q : H a with
        | none => rfl
        | some o =>
          by_cases ht : a ∈ cellsOf cl
          · have n := nT a ht
            rcases hr1.cells a (by rw [g1]; exact List.mem_append_right _ ha) with ⟨_, e⟩ | ⟨_, _, _, e⟩ | ⟨_, e⟩ | ⟨_, e⟩ <;> rw [n] at e <;> cases e
          · rw [unt_out ht, q] at z; cases z
      · by_cases ht : a ∈ cellsOf cl
        · unfold ret'; rw [if_pos ht]; exact g1
        · exact ret_of nT (ev.keep a o (by rw [unt_out ht]; exact g1) g2 g3)
      · by_cases ht : a ∈ cellsOf cl
        · exact ⟨o, by unfold ret'; rw [if_pos ht]; exact g1⟩
        · obtain ⟨o', z⟩ := ev.there a o (by rw [unt_out ht]; exact g1)
          exact ⟨o', ret_of nT z⟩
    have hlen : μ.length = h.length := hrel.len
    -- the body's own wish
    let Q1 : VK := fun v H1 => (∀ a ∈ cellsOf cl, H1 a = none) → Q v (ret' (cellsOf cl) H H1)
    let E1 : XK := fun cls d H1 => (∀ a ∈ cellsOf cl, H1 a = none) → E cls d (ret' (cellsOf cl) H H1)
    have body := hbody hid A outer s (unt (cellsOf cl) H) E1 f c' qual cl hok (hr.deeper _)
    have envR : SRel (R.wh hid) μ (avs.map some ++ (cs ++ List.replicate l.own.length none)) (unt (cellsOf cl) H) (NdefX.startF l.NN vs ws) := by
      have lw : cs.length = l.fr.length := by
        have : ∀ {cs : List (Option AV)} {ws : List (Option V)}, RepO (R.wh hid) μ H cs ws → ws.length = cs.length := fun {cs} => by
          induction cs with
          | nil => intro ws h; rw [show ws = [] from h]; rfl
          | cons a cs ih =>
            intro ws h
            cases a with
            | none =>
              obtain ⟨v, r, rfl, h2⟩ := h
              simp [ih h2]
            | some a =>
              obtain ⟨v, r, rfl, _, h2⟩ := h
              simp [ih h2]
        rw [← this ro, hl]
      have ow : l.NN.length - vs.length - ws.length = l.own.length := by
        unfold LamInfo.NN
        rw [List.length_append, List.length_append, hvl, hl]
        omega
      have slotO : ∀ {cs : List (Option AV)} {ws : List (Option V)} {i : Nat} {av : AV}, RepO (R.wh hid) μ (unt (cellsOf cl) H) cs ws → cs[i]? = some (some av) → ∃ v, ws[i]? = some (some v) ∧ Rep (R.wh hid) μ (unt (cellsOf cl) H) av v := fun {cs} => by
        induction cs with
        | nil => intro ws i av h e; simp at e
        | cons a cs ih =>
          intro ws i av h e
          cases i with
          | zero =>
            simp at e
            subst e
            obtain ⟨v, r, rfl, h1, h2⟩ := h
            exact ⟨v, rfl, h1⟩
          | succ i =>
            have e' : cs[i]? = some (some av) := by simpa using e
            cases a with
            | none =>
              obtain ⟨v, r, rfl, h2⟩ := h
              obtain ⟨u, g1, g2⟩ := ih h2 e'
              exact ⟨u, by simpa using g1, g2⟩
            | some a =>
              obtain ⟨v, r, rfl, _, h2⟩ := h
              obtain ⟨u, g1, g2⟩ := ih h2 e'
              exact ⟨u, by simpa using g1, g2⟩
      refine ⟨?_, fun i av e => ?_⟩
      · unfold NdefX.startF
        rw [ow]
        simp only [List.length_append, List.length_map, List.length_replicate]
        rw [ra.length, lw, hl]
      · unfold NdefX.startF
        rw [ow]
        by_cases h1 : i < avs.length
        · rw [List.getElem?_append_left (by rw [List.length_map]; exact h1), List.getElem?_map] at e
          rw [List.getElem?_append_left (by rw [List.length_map, ra.length]; exact h1), List.getElem?_map]
          cases g : avs[i]? with
          | none => rw [g] at e; cases e
          | some x =>
            rw [g] at e
            cases e
            obtain ⟨v, g1, g2⟩ := ra1.get g
            exact ⟨v, by rw [g1]; rfl, g2⟩
        · rw [List.getElem?_append_right (by rw [List.length_map]; omega), List.length_map] at e
          rw [List.getElem?_append_right (by rw [List.length_map, ra.length]; omega), List.length_map, ra.length]
          by_cases h2 : i - avs.length < cs.length
          · rw [List.getElem?_append_left h2] at e
            rw [List.getElem?_append_left (by rw [hl, ← lw]; exact h2)]
            exact slotO ro1 e
          · rw [List.getElem?_append_right (by omega), List.getElem?_replicate] at e
            split at e <;> cases e
    have post : Post (R.wh hid) (WofE E1) (NdefX.startF l.NN vs ws) μ (unt (cellsOf cl) H) (m (avs.map some ++ (cs ++ List.replicate l.own.length none)) h) Q1 := by
      cases e : m (avs.map some ++ (cs ++ List.replicate l.own.length none)) h with
      | stuck => rw [e] at p; exact p
      | ok v h' =>
        rw [e, ← hlen] at p
        intro μ1 H1 w1 ev hr1 rv nT
        obtain ⟨ev2, hr2⟩ := back1 ev hr1 nT
        exact back_ok p ev2 hr2 (rv.ev hr1.cells (Ev.wider fun a o => ret_of nT))
      | exc c x h' =>
        rw [e, ← hlen] at p
        intro μ1 H1 cls d ev hr1 rx nT
        obtain ⟨ev2, hr2⟩ := back1 ev hr1 nT
        obtain ⟨r1, dd, ff, u, r2, r3, r4, n, r5⟩ := rx
        exact backX_ok p ev2 hr2 ⟨r1, dd, ff, u, r2, r3, ret_of nT r4, n, r5.ev hr1.cells (Ev.wider fun a o => ret_of nT)⟩
    -- the cells' places are not taken
    have there : ∀ a ∈ cellsOf cl, ∃ o, s.heap.get? a = some o := fun a ha => by
      obtain ⟨y, hy⟩ := mem_cellsOf ha
      obtain ⟨v, q⟩ := hcl y a hy
      obtain ⟨o, ho, _⟩ := isCell q
      exact ⟨o, ho⟩
    have nofr : ∀ a ∈ cellsOf cl, a ∉ frs outer := fun a ha hm => by
      obtain ⟨y, hy⟩ := mem_cellsOf ha
      obtain ⟨v, co, hd, q⟩ := hcl y a hy
      rcases q with ⟨q, _⟩ | q
      · have z := e0.frf a hm
        rw [q] at z; cases z
      · have z := (e0.funs.mem hm).1
        rw [q] at z; cases z
    -- what stands in the heap behind the body
    have hokB : ∀ {H1 : Hp} {B : Heap}, HOk P w H1 B → (∀ b o, s.heap.get? b = some o → unt (cellsOf cl) H b = none → b ∉ frs outer → B.get? b = some o) → (∀ a ∈ cellsOf cl, H1 a = none) → HOk P w (ret' (cellsOf cl) H H1) B := fun {H1 B} hk kp nT a o g => by
      unfold ret' at g
      by_cases ht : a ∈ cellsOf cl
      · rw [if_pos ht] at g
        rcases ok a ht with z | ⟨co, z⟩
        · rw [z] at g; cases g
        · rw [z] at g
          cases g
          obtain ⟨h1, h2⟩ := (show ObjOk P w H s.heap a (.frz co (.own 0)) from e0.hok a _ z)
          have := kp a co h1 (unt_in ht) (nofr a ht)
          exact ⟨this, co, this⟩
      · rw [if_neg ht] at g
        exact (hk a o g).stay (fun _ _ _ q => q) (fun b q => ret_of nT q) fun b xs q => ret_of nT q
    refine PySem.W.kla_callFunE hr.depth ho rfl S.co S.gen rfl (NdefX.codeO_at e0.hok h3) ?_
    have ndp : l.ps.Nodup := by
      have q := S.nd
      unfold LamInfo.NN at q
      exact (List.nodup_append.mp q).1
    rw [bind_all lp lps rfl ndp (by rw [← r.length]; exact hvl)]
    refine wpAny_pure (wpAny_newFunctionEnv S.nocell (fun ⟨n, _⟩ hy => S.par n (List.of_mem_zip hy).1) (fun h₁ hns hsb => ⟨lim.fresh _ hsb, ?_⟩) S.kind)
    show codeAny _ _ (.expr l.body (NdefX.envF (lnf l qual cl c') f s.heap.objs.size)) _ _
    have kp : ∀ b o, s.heap.get? b = some o → h₁.get? b = some o := fun b o e => hsb.extBut b o (Nat.ne_of_lt (Heap.lt_size e)) (Heap.get?_push_of_some _ e)
    have J : Inv (lcx R P w mg l qual cl c' f A outer s (unt (cellsOf cl) H) E1) [] (NdefX.startF l.NN vs ws) (unt (cellsOf cl) H) { s with heap := h₁, toks := s.toks + (l.ps.zip us).length } := NdefX.inv_startN S hr.hd e1 hvl r C hns kp
    refine PySem.W.kla_codeExpr (wpAny_mono (body.run [] _ _ _ Q1 J ⟨μ, _, h, envR, rel1, post⟩) (fun v s' hq => ?_) fun e s' hq => ?_)
    · obtain ⟨w', H1, J', rv, q⟩ := hq
      have un : Un (frs outer) [] (unt (cellsOf cl) H) H1 s.heap s'.heap := J'.base
      have nT : ∀ a ∈ cellsOf cl, H1 a = none := fun a ha => by
        obtain ⟨o, hoa⟩ := there a ha
        exact un.free a o hoa (unt_in ha) (by simp)
      refine ⟨w', ret' (cellsOf cl) H H1, J'.os, J'.bare, ⟨fun b o g1 g2 g3 _ => un.keep b o g1 (unt_none g2) g3 (by simp), fun b o g1 g2 g3 _ => un.slot b o g1 (unt_none g2) g3 (by simp), fun b o g1 g2 _ => ?_, fun b o g1 _ => un.there b o g1 (by simp), fun b xs g1 => ?_, fun b o u g1 => ?_, fun b ps g1 => ?_⟩,
        hokB J'.hok (fun b o g1 g2 g3 => un.keep b o g1 g2 g3 (by simp)) nT, rv, q nT⟩
      · unfold ret'
        split
        · exact g2
        · exact un.free b o g1 (unt_none g2) (by simp)
      · exact ret_of nT (un.tups b xs (unt_keep ok g1 fun co z => by cases z))
      · by_cases ht : b ∈ cellsOf cl
        · unfold ret'; rw [if_pos ht]; exact g1
        · exact ret_of nT (un.frzs b o u (by rw [unt_out ht]; exact g1))
      · obtain ⟨more, z⟩ := un.tbls b ps (unt_keep ok g1 fun co z => by cases z)
        exact ⟨more, ret_of nT z⟩
    · have conv : ∀ e s'', L2.CX P w outer (unt (cellsOf cl) H) s E1 e s'' → L2.CX P w outer H s E e s'' := fun e s'' hx => by
        obtain ⟨a, B, H', cls, d, rfl, fl, hk, ub, na, os, ag, hE⟩ := hx
        have nT : ∀ a ∈ cellsOf cl, H' a = none := fun a ha => by
          obtain ⟨o, hoa⟩ := there a ha
          exact ub.free a o hoa (unt_in ha)
        refine ⟨a, B, ret' (cellsOf cl) H H', cls, d, rfl, fl, hokB hk ub.keep nT, ⟨fun b o g1 g2 g3 => ub.keep b o g1 (unt_none g2) g3, ub.slot, fun b o g1 g2 => ?_, ub.there, fun b xs g1 => ?_, fun b o u g1 => ?_, fun b ps g1 => ?_⟩, ?_, os, ag, hE nT⟩
        · unfold ret'
          split
          · exact g2
          · exact ub.free b o g1 (unt_none g2)
        · exact ret_of nT (ub.tups b xs (unt_keep ok g1 fun co z => by cases z))
        · by_cases ht : b ∈ cellsOf cl
          · unfold ret'; rw [if_pos ht]; exact g1
          · exact ret_of nT (ub.frzs b o u (by rw [unt_out ht]; exact g1))
        · obtain ⟨more, z⟩ := ub.tbls b ps (unt_keep ok g1 fun co z => by cases z)
          exact ⟨more, ret_of nT z⟩
        · unfold ret'
          split
          · rename_i ht
            cases g : H a with
            | none => rfl
            | some o =>
              obtain ⟨o1, ho1⟩ := there a ht
              have n2 := ub.keep a o1 ho1 (unt_in ht) (nofr a ht)
              have z := fl.2.1
              rw [n2] at z; cases z
          · exact na
      exact wpAny_mono hq (fun _ s'' hx => conv _ _ hx) fun e' s'' hx => conv _ _ hx
  · rw [if_neg hcond] at p; exact p.elim
end
end Tp
end
section
set_option Elab.async false
set_option linter.all false
set_option maxRecDepth 100000
set_option maxHeartbeats 1000000

namespace Tp
open PySem PySem.Spec PyProof.Rows L2 LamX

structure LamAt (R : Rx) (X : Cx) : Prop where
  at_ : ∃ c P, TabB X.base X.mg c P ∧ X.env.code = .ref c ∧ (P, X.env.qual ++ "<lambda>") ∈ R.T ∧ ∀ p ∈ R.T, p.1 = P → p.2 = X.env.qual ++ "<lambda>"
  fn : ∀ x, X.fn x = true
section
variable {X : Cx} {pins : List (Addr × Obj)} {σ : L2.St} {H : Hp} {s : Shared}

theorem lam_make3 {T : List (Addr × Str)} {c P : Addr} {params : Arguments} {body : Expr} {scope : Scope} {pos : Pos} {E : Value → Shared → Prop} {Q : Value → Shared → Prop} (I : Inv X pins σ H s) (TB : TabB X.base X.mg c P) (hcode : X.env.code = .ref c)
    (hm : (P, X.env.qual ++ "<lambda>") ∈ T) (hu : ∀ p ∈ T, p.1 = P → p.2 = X.env.qual ++ "<lambda>") (hT : Tabs T H) (hdef : defaultsOf params X.env = ([], [])) (hfree : ∀ y ∈ scope.names, y.2 = .free → ∃ c, X.env.cells.lookup y.1 = some c)
    (h : ∀ (f c' : Addr) (pm ctv : Value) (H1 : Hp) (s' : Shared), Inv X pins σ H1 s' → ExtN H H1 → (∀ a o, H a = some o → ∃ o', H1 a = some o') → Tabs T H1 → s.heap.objs.size ≤ f →
      s'.heap.get? f = some (PySem.W.kla_obj "<lambda>" (X.env.qual ++ "<lambda>") params body scope (cloFrom X.env.cells scope.names []) pm c' ctv) → H1 f = none → f ∉ frs X.stack → H1 c' = some (CodeO c' (X.env.qual ++ "<lambda>")) → Q (.ref f) s') :
    wpAny (model X.prog X.w) X.A (eval (.Lambda params body scope pos) X.env) Q E s := by
  obtain ⟨ps, hP, ht, ha⟩ := hT _ hm
  refine PySem.W.kla_eval hdef ?_
  have bP : s.heap.BuiltinsAt X.mg P := TB.bm.keeps I.bk
  have hP' : s.heap.get? P = some { cls := .none, data := .fields ps } := I.hok P _ hP
  have nofr : ∀ f, s.heap.objs.size ≤ f → f ∉ frs X.stack := fun f hf z => by
    rcases List.mem_cons.mp (I.stkSub _ z) with e | e
    · have h1 := I.lt
      rw [← e] at h1
      exact Nat.lt_irrefl _ (Nat.lt_of_lt_of_le h1 hf)
    · exact I.nofs hf e
  cases hc : codeAmong pos ps.toList with
  | none =>
    refine PySem.W.kla_makeFunction (mg := X.mg) (c := c) (P := P) (ps := ps) (closure_ok hfree) I.ok.glob (I.mod.glob.keeps I.bk) hcode (TB.code.keeps I.bk) hP' ht hc TB.gP bP fun c' ctv h' tk hx hge hlt hrec htb => ?_
    obtain ⟨c2, oc, vs, t, e2, hoc, hd, hv⟩ := hrec
    cases e2
    have hsz : s.heap.objs.size ≤ h'.objs.size := Nat.le_trans hge (Nat.le_of_lt hlt)
    have nC : H c' = none := I.hok.fresh hge
    have I1 := inv_table (t' := tk) (more := #[rawInt pos.line, rawInt pos.col, .ref c']) (h' := h'.push (PySem.W.kla_obj "<lambda>" (X.env.qual ++ "<lambda>") params body scope (cloFrom X.env.cells scope.names []) ((X.mg "__name__").getD .none) c' ctv)) I hP
      (fun b o hb e => Heap.get?_push_of_some _ (hx b o hb e)) (Heap.get?_push_of_some _ htb) hge ⟨oc, vs, t, Heap.get?_push_of_some _ hoc, hd, hv⟩
    have hE : ExtN H (upd (upd H P (.tbl (ps ++ #[rawInt pos.line, rawInt pos.col, .ref c']))) c' (CodeO c' (X.env.qual ++ "<lambda>"))) := fun b o e n => by
      rw [upd_ne (ne_of_none e nC), upd_ne (fun z => n ps (Option.some.inj (e.symm.trans (by rw [z]; exact hP))))]
      exact e
    have hTh : ∀ a o, H a = some o → ∃ o', upd (upd H P (.tbl (ps ++ #[rawInt pos.line, rawInt pos.col, .ref c']))) c' (CodeO c' (X.env.qual ++ "<lambda>")) a = some o' := fun a o e => by
      rw [upd_ne (ne_of_none e nC)]
      by_cases z : a = P
      · rw [z, upd_same]; exact ⟨_, rfl⟩
      · rw [upd_ne z]; exact ⟨o, e⟩
    have eL : (ps ++ #[rawInt pos.line, rawInt pos.col, .ref c']).toList = ps.toList ++ [rawInt pos.line, rawInt pos.col, .ref c'] := by simp
    refine h h'.objs.size c' ((X.mg "__name__").getD .none) ctv _ _ I1 hE hTh (fun p hp => ?_) hsz (Heap.get?_push_size _ rfl) ?_ (nofr _ hsz) upd_same
    · by_cases hb : p.1 = P
      · rw [hu p hp hb, hb]
        refine ⟨_, by rw [upd_ne (ne_of_none hP nC), upd_same], by rw [eL]; exact PySem.TriplesOk_snoc _ _ _ _ ht, fun p' cv hcv => ?_⟩
        rw [eL] at hcv
        rcases among_app _ ht hcv with z | z
        · obtain ⟨c0, e1, e2⟩ := ha p' cv z
          exact ⟨c0, e1, hE _ _ e2 codeO_ne⟩
        · exact ⟨c', z, upd_same⟩
      · obtain ⟨ps', a1, a2, a3⟩ := hT p hp
        refine ⟨ps', by rw [upd_ne (ne_of_none a1 nC), upd_ne hb]; exact a1, a2, fun p' cv hcv => ?_⟩
        obtain ⟨c0, e1, e2⟩ := a3 p' cv hcv
        exact ⟨c0, e1, hE _ _ e2 codeO_ne⟩
    · have n1 : h'.objs.size ≠ c' := Nat.ne_of_gt hlt
      have n2 : h'.objs.size ≠ P := Nat.ne_of_gt (Nat.lt_of_lt_of_le (Heap.lt_size hP') hsz)
      rw [upd_ne n1, upd_ne n2]
      exact I.hok.fresh hsz
  | some cv =>
    obtain ⟨c', e, hco⟩ := ha pos cv hc
    subst e
    refine PySem.W.kla_makeFunctionHit (mg := X.mg) (c := c) (P := P) (ps := ps) (closure_ok hfree) I.ok.glob (I.mod.glob.keeps I.bk) hcode (TB.code.keeps I.bk) hP' ht hc bP fun ctv h' tk hx hsz => ?_
    have I1 : Inv X pins σ H { s with heap := h'.push (PySem.W.kla_obj "<lambda>" (X.env.qual ++ "<lambda>") params body scope (cloFrom X.env.cells scope.names []) ((X.mg "__name__").getD .none) c' ctv), toks := tk } := I.kept fun b o e => Heap.get?_push_of_some _ (hx b o e)
    exact h h'.objs.size c' ((X.mg "__name__").getD .none) ctv H _ I1 (ExtN.refl H) (fun a o e => ⟨o, e⟩) hT hsz (Heap.get?_push_size _ rfl) (I.hok.fresh hsz) (nofr _ hsz) hco
end

theorem bind_assoc {α β γ : Type} (m : M α) (k : α → M β) (l : β → M γ) : bind (bind m k) l = bind m fun a => bind (k a) l := by
  funext h
  unfold bind
  cases m h <;> rfl
theorem bind_ret {α β : Type} (a : α) (k : α → M β) : bind (ret a) k = k a := rfl
section
variable {R : Rx} {X : Cx} {W : WX} {c : Calls} {k : Nat}
theorem args_lam {f : Expr → DE} {lam : Expr} (hl : isStar lam = false) : ∀ (init : List Expr), (∀ e ∈ init, isStar e = false → AE R X W e (f e)) → plainArgs init = true →
    ∀ {pos : Pos} {pins : List (Addr × Obj)} {s : Shared} {σ : L2.St} {H : Hp} {μ : List Addr} {env : AEnv} {h : AHp} {κ : List AV → M AV} {Q : VK} {Qf : List Value → Shared → Prop}, Inv X pins σ H s → SRel R μ env H σ → HRel R μ h H → Post R W σ μ H (bind (evArgs f init env) κ h) Q →
      (∀ us vs avs μ1 H1 h1 s1, Inv X pins σ H1 s1 → Ev μ H μ1 H1 → SRel R μ1 env H1 σ → HRel R μ1 h1 H1 → RepL R μ1 H1 avs vs → Vals vs us → Post R W σ μ1 H1 (κ avs h1) Q → wpAny (model X.prog X.w) X.A (eval lam X.env) (fun u s2 => Qf (us ++ [u]) s2) X.xe s1) →
      wpAny (model X.prog X.w) X.A (spliced (backTo pos (starEach (init ++ [lam]) X.env))) Qf X.xe s
  | [], _, _, pos, pins, s, σ, H, μ, env, h, κ, Q, Qf, I, S, hr, p, hk => by
    rw [List.nil_append, starEach_plain hl]
    show wpAny _ _ (spliced ((false, eval lam X.env) :: backTo pos (starEach [] X.env))) _ _ s
    have q := hk [] [] [] μ H h s I (Ev.refl _ _) S hr rfl .nil p
    exact Calls.spliced_cons (thn q fun u s2 h2 => Calls.spliced_nil h2)
  | e :: init, he, hp, pos, pins, s, σ, H, μ, env, h, κ, Q, Qf, I, S, hr, p, hk => by
    obtain ⟨p1, p2⟩ := plainArgs_cons hp
    rw [List.cons_append, starEach_plain p1]
    show wpAny _ _ (spliced ((false, eval e X.env) :: backTo pos (starEach (init ++ [lam]) X.env))) _ _ s
    have e0 : evArgs f (e :: init) = aCons (f e) (evArgs f init) := by cases e <;> first | rfl | (simp [isStar] at p1)
    rw [e0] at p
    have e1 : bind (aCons (f e) (evArgs f init) env) κ = bind (f e env) fun x => bind (evArgs f init env) fun xs => κ (x :: xs) := by
      unfold aCons
      rw [bind_assoc]
      congr 1
      funext x
      rw [bind_assoc]
      congr 1
    rw [e1] at p
    have hE : rdE R W (f e) σ H (fun v H1 => ∃ μ1 h1 av, Ev μ H μ1 H1 ∧ SRel R μ1 env H1 σ ∧ HRel R μ1 h1 H1 ∧ Rep R μ1 H1 av v ∧ Post R W σ μ1 H1 (bind (evArgs f init env) (fun xs => κ (av :: xs)) h1) Q) := rdE_bind S hr p fun av h1 μ1 H1 v ev S1 hr1 rv p => ⟨μ1, h1, av, ev, S1, hr1, rv, p⟩
    refine Calls.spliced_cons (thn ((he e List.mem_cons_self p1).run pins s σ H _ I hE) fun u s1 ⟨v, H1, I1, r1, μ1, h1, av, ev1, S1, hr1, rv, p3⟩ => ?_)
    refine args_lam hl init (fun e he' => he e (List.mem_cons_of_mem _ he')) p2 (Qf := fun vs s2 => Qf (u :: vs) s2) I1 S1 hr1 p3 fun us vs avs μ2 H2 h2 s2 I2 ev2 S2 hr2 rvs r p4 => ?_
    exact hk (u :: us) (v :: vs) (av :: avs) μ2 H2 h2 s2 I2 (ev1.trans ev2) S2 hr2 ⟨v, vs, rfl, rv.ev hr1.cells ev2, rvs⟩ (.cons r1 r) p4



def kn (T : List Addr) (h : Heap) (H : Hp) : Hp := fun b => if b ∈ T then (h.get? b).map (fun o => HO.frz o (.own 0)) else H b
theorem kn_wider {T : List Addr} {h : Heap} {H : Hp} (nT : ∀ a ∈ T, H a = none) {a : Addr} {o : HO} (e : H a = some o) : kn T h H a = some o := by
  unfold kn
  rw [if_neg]
  · exact e
  · intro z
    rw [nT a z] at e; cases e
theorem kn_in {T : List Addr} {h : Heap} {H : Hp} {a : Addr} {o : Obj} (ha : a ∈ T) (e : h.get? a = some o) : kn T h H a = some (.frz o (.own 0)) := by
  unfold kn
  rw [if_pos ha, e]
  rfl
theorem kn_out {T : List Addr} {h : Heap} {H : Hp} {a : Addr} (ha : a ∉ T) : kn T h H a = H a := if_neg ha
theorem ae_callL (F : Facts R X.mg) (hK : X.K = R.K) (hB : X.base = R.base) (C : CallsOk R X c k) (hr : Room k X.A) (tk : Takes X W) (LX : LamAt R X) (hNd : X.N.Nodup) {x : Str} {i : Nat} (hn : R.G.names.lookup x = some (.fn i)) (hg : Gl X x) (hd : notDebug x = true)
    {f : Expr → DE} {init : List Expr} {params : Arguments} {body : Expr} {scope : Scope} {lpos p0 pos : Pos} {js : List Nat} (hok : (lamOf params body scope).ok = true) (hin : lamIn? (lamOf params body scope) X.env.scope = true) (hjs : ixs X.N (lamOf params body scope).fr = some js)
    (hp : plainArgs init = true) (ha : ∀ e ∈ init, isStar e = false → AE R X W e (f e)) :
    AE R X W (.Call (.Name x p0) (init ++ [.Lambda params body scope lpos]) [] pos) (eCallL c i (lamOf params body scope) js (evArgs f init)) := by
  obtain ⟨hm, hi⟩ := lookup_fn F hn
  obtain ⟨cc, P, TB, hcode, hmT, hu⟩ := LX.at_
  obtain ⟨lp, lps, S0⟩ := lamOk hok
  have hplain : plainArgs (init ++ [.Lambda params body scope lpos]) = true := by
    unfold plainArgs at hp ⊢
    rw [List.any_append]
    simpa [isStar] using hp
  refine ⟨fun pins s σ H Q I ⟨μ, env, h, S, hrel, p⟩ => ?_⟩
  refine wpAny_Call_Name_kw (ld_glob I hg hm ?_ (notDebug_ok hd).1)
  have hfree : ∀ y ∈ scope.names, y.2 = .free → X.env.scope.names.lookup y.1 = some .cell ∨ X.env.scope.names.lookup y.1 = some .free := fun y hy e => by
    have q := List.all_eq_true.mp hin y hy
    simp only [Bool.or_eq_true, Bool.not_eq_true', beq_iff_eq, e] at q
    rcases q with (z | z) | z
    · simp at z
    · exact .inl z
    · exact .inr z
  have hfr : ∀ y ∈ (lamOf params body scope).fr, (y, NameKind.free) ∈ scope.names := fun y hy => PySem.mem_of_lookup (S0.frk y hy)
  have hjs2 : js.map (fun j => X.N[j]?) = (lamOf params body scope).fr.map some := by
    have key : ∀ (l : List Str) (js : List Nat), ixs X.N l = some js → js.map (fun j => X.N[j]?) = l.map some := fun l => by
      induction l with
      | nil => intro js e; cases e; rfl
      | cons x l ih =>
        intro js e
        unfold ixs at e
        cases e1 : ixOf X.N x with
        | none => rw [e1] at e; cases e
        | some i =>
          cases e2 : ixs X.N l with
          | none => rw [e1, e2] at e; cases e
          | some is =>
            rw [e1, e2] at e
            cases e
            rw [List.map_cons, List.map_cons, ih is e2, ixOf_ok e1]
    exact key _ _ hjs
  have hdef : defaultsOf params X.env = ([], []) := by
    unfold plainPs at lp
    simp only [Bool.and_eq_true, List.isEmpty_iff, Option.isNone_iff_eq_none] at lp
    obtain ⟨⟨⟨⟨⟨h1, h2⟩, h3⟩, h4⟩, h5⟩, h6⟩ := lp
    have h4' : params.kw_defaults = [] := h4
    have h6' : params.defaults = [] := h6
    obtain ⟨a1, a2, a3, a4, a5, a6, a7⟩ := params
    dsimp only at h4' h6'
    subst h4' h6'
    rfl
  -- the call itself
  have go : ∀ us vs avs μ1 H1 h1 s1, Inv X pins σ H1 s1 → Ev μ H μ1 H1 → SRel R μ1 env H1 σ → HRel R μ1 h1 H1 → RepL R μ1 H1 avs vs → Vals vs us → Post R W σ μ1 H1 (chkC (c (.fn i) (avs ++ [.clo (lamOf params body scope) (caps env js)]) h1)) Q →
      wpAny (model X.prog X.w) X.A (eval (.Lambda params body scope lpos) X.env) (fun u s2 => X.K.In s2.heap ∧ wpAny (model X.prog X.w) X.A (call (.ref (R.fa i)) (us ++ [u])) (EP X pins σ Q) X.xe s2) X.xe s1 := fun us vs avs μ1 H1 h1 s1 I1 ev1 S1 hr1 ra r p1 => by
    refine lam_make3 I1 TB hcode hmT hu hr1.tabs hdef (fun y hy e => (hfree y hy e).elim (fun z => I1.ok.has _ (.inl z)) fun z => I1.ok.has _ (.inr z)) fun fa c' pm ctv H2 s2 I2 eN th T2 hge hf hfn hfrs hco => ?_
    refine ⟨I2.kIn, ?_⟩
    have ev2 : Ev μ1 H1 μ1 H2 := ⟨⟨[], by simp, fun a h => by cases h⟩, fun a o g _ t => eN a o g t, th⟩
    have cOk := hr1.cells
    have hr2 : HRel R μ1 h1 H2 := by
      refine ⟨hr1.len, hr1.nd, fun i o a g1 g2 => ?_, T2, fun b hb => let ⟨n, xs, z⟩ := hr1.hid b hb; ⟨n, xs, eN _ _ z fun ps q => by cases q⟩⟩
      have q := hr1.obj i o a g1 g2
      cases o with
      | lst xs =>
        obtain ⟨vs, z, r, pu⟩ := q
        exact ⟨vs, eN _ _ z (fun ps q => by cases q), r.ev cOk ev2, pu⟩
      | ins k fs =>
        obtain ⟨dx, fs', z, n, r, pu⟩ := q
        exact ⟨dx, fs', eN _ _ z (fun ps q => by cases q), n, r.ev cOk ev2, pu⟩
      | dct kvs => exact q.elim
    have S2 := S1.ev cOk ev2
    have ra2 := ra.ev cOk ev2
    generalize hcl : cloFrom X.env.cells scope.names [] = cl at hf
    have caps_ : NdefX.Caps X cl (lamOf params body scope).fr js := by
      rw [← hcl]
      exact NdefX.Caps.made I2.ok hfree hfr hjs2
    have CA := NdefX.cells_of I2 caps_
    -- what is known now
    generalize hT : fa :: cellsOf cl = T
    have inT : ∀ a ∈ T, a = fa ∨ ∃ y, cl.lookup y = some a := fun a ha => by
      rw [← hT] at ha
      rcases List.mem_cons.mp ha with e | e
      · exact .inl e
      · exact .inr (mem_cellsOf e)
    have faT : fa ∈ T := by rw [← hT]; exact List.mem_cons_self
    have clT : ∀ {y a}, cl.lookup y = some a → a ∈ T := fun {y a} e => by rw [← hT]; exact List.mem_cons_of_mem _ (cellsOf_mem e)
    have nT : ∀ a ∈ T, H2 a = none := fun a ha => by
      rcases inT a ha with rfl | ⟨y, hy⟩
      · exact hfn
      · exact (CA.all y a hy).1
    have hT2 : ∀ a ∈ T, ∃ o, s2.heap.get? a = some o := fun a ha => by
      rcases inT a ha with rfl | ⟨y, hy⟩
      · exact ⟨_, hf⟩
      · obtain ⟨_, v, o, ho, _⟩ := CA.all y a hy
        exact ⟨o, ho⟩
    have nfr : ∀ a ∈ T, a ∉ frs X.stack := fun a ha hm => by
      rcases inT a ha with rfl | ⟨y, hy⟩
      · exact hfrs hm
      · have e2 := caps_.sub y a hy
        have hab := I2.ok.cab y a (LX.fn y) e2
        rcases List.mem_cons.mp (I2.stkSub a hm) with z | z
        · exact I2.cne y a e2 z
        · obtain ⟨_, o, ho, _⟩ := I2.ok.funs.mem z
          exact Nat.lt_irrefl _ (Nat.lt_of_lt_of_le (Heap.lt_size ho) hab)
    have nbase : ∀ a ∈ T, X.base.get? a = none := fun a ha => by
      rcases inT a ha with rfl | ⟨y, hy⟩
      · refine Heap.get?_none_of_le (Nat.le_trans I1.ok.bsz (Nat.le_trans I1.sz hge))
      · have e2 := caps_.sub y a hy
        exact Heap.get?_none_of_le (Nat.le_trans I2.ok.bsz (I2.ok.cab y a (LX.fn y) e2))
    have wid : ∀ a o, H2 a = some o → kn T s2.heap H2 a = some o := fun a o => kn_wider nT
    have hr3 : HRel R μ1 h1 (kn T s2.heap H2) := hr2.wider wid
    have ra3 := ra2.ev hr2.cells (Ev.wider wid)
    have nμ : ∀ a ∈ T, a ∉ μ1 := fun a ha z => by
      rcases hr2.cells a z with ⟨_, e⟩ | ⟨_, _, _, e⟩ | ⟨_, e⟩ | ⟨_, e⟩ <;> rw [nT a ha] at e <;> cases e
    have e3 : Env0 X.prog X.w X.K X.mg X.base X.A X.stack s2 (kn T s2.heap H2) := by
      have e0 := I2.env0
      refine ⟨e0.frames, e0.mod, fun b o g => ⟨(e0.bs b o g).1, ?_⟩, e0.bsz, e0.funs, fun b hb => ?_, fun a o g => ?_, e0.bare⟩
      · rw [kn_out (fun z => by rw [nbase b z] at g; cases g)]
        exact (e0.bs b o g).2
      · rw [kn_out (fun z => nfr b z hb)]
        exact e0.frf b hb
      · by_cases ha : a ∈ T
        · obtain ⟨ob, hob⟩ := hT2 a ha
          rw [kn_in ha hob] at g
          cases g
          exact ⟨hob, ob, hob⟩
        · rw [kn_out ha] at g
          exact (e0.hok a o g).stay (fun _ _ _ q => q) (fun b q => wid _ _ q) fun b xs q => wid _ _ q
    -- the closure
    have cellIs : ∀ {c v}, c ∈ T → s2.heap.IsCell c v → CellIs R μ1 (kn T s2.heap H2) c v := fun {c v} hc ⟨o, ho, hd⟩ => ⟨o, hd, .inl ⟨kn_in hc ho, nμ c hc⟩⟩
    have cloAt : CloAt R μ1 (kn T s2.heap H2) (lamOf params body scope) fa (js.map (NdefX.slotAt σ)) := by
      refine ⟨X.env.qual ++ "<lambda>", cl, pm, ctv, c', hok, kn_in faT hf, wid _ _ hco, nμ fa faT, fun z => ?_, CA.len, CA.inj, fun y a e => ?_, fun kk y e => ?_⟩
      · rcases hr2.cells c' z with ⟨_, e⟩ | ⟨_, _, _, e⟩ | ⟨_, e⟩ | ⟨_, e⟩ <;> rw [hco] at e <;> unfold CodeO at e <;> cases e
      · obtain ⟨_, v, hv⟩ := CA.all y a e
        exact ⟨v, cellIs (clT e) hv⟩
      · obtain ⟨a, g1, g2⟩ := CA.has kk y e
        refine ⟨a, g1, fun v hv => ?_⟩
        obtain ⟨u, ru, hu⟩ := g2 v hv
        exact ⟨u, ru, cellIs (clT g1) hu⟩
    have repo : RepO R μ1 (kn T s2.heap H2) (caps env js) (js.map (NdefX.slotAt σ)) := by
      have S3 := S2.ev hr2.cells (Ev.wider wid)
      have key : ∀ js : List Nat, RepO R μ1 (kn T s2.heap H2) (caps env js) (js.map (NdefX.slotAt σ)) := fun js => by
        induction js with
        | nil => exact rfl
        | cons j js ih =>
          cases e : (env[j]?).getD none with
          | none =>
            have e1 : caps env (j :: js) = none :: caps env js := by unfold caps; rw [List.map_cons, e]
            rw [e1]
            exact ⟨_, _, rfl, ih⟩
          | some av =>
            have e1 : caps env (j :: js) = some av :: caps env js := by unfold caps; rw [List.map_cons, e]
            rw [e1]
            have e2 : env[j]? = some (some av) := by
              cases q : env[j]? with
              | none => rw [q] at e; cases e
              | some o => rw [q] at e; rw [show o = some av from e]
            obtain ⟨v, g1, g2⟩ := S3.slot j av e2
            exact ⟨v, _, by rw [List.map_cons, NdefX.slotAt_of g1], g2, ih⟩
      exact key js
    have raL : RepL R μ1 (kn T s2.heap H2) (avs ++ [.clo (lamOf params body scope) (caps env js)]) (vs ++ [.ref fa]) := ra3.append ⟨.ref fa, [], rfl, ⟨fa, _, rfl, cloAt, repo⟩, rfl⟩
    have rL : Vals (vs ++ [V.ref fa]) (us ++ [Value.ref fa]) := r.append (.cons rfl .nil)
    -- its wish
    let Q3 : VK := fun v H' => Q v (unt T H')
    let E3 : XK := fun cls d H' => W cls d σ (unt T H')
    have okT : ∀ {μ' H'}, Ev μ1 (kn T s2.heap H2) μ' H' → UntOk T H' := fun {μ' H'} e a ha => by
      obtain ⟨ob, hob⟩ := hT2 a ha
      exact .inr ⟨ob, e.keep a _ (kn_in ha hob) (nμ a ha) fun ps z => by cases z⟩
    have evB : ∀ {μ' H'}, Ev μ1 (kn T s2.heap H2) μ' H' → Ev μ1 H1 μ' (unt T H') := fun {μ' H'} e => by
      refine ev2.trans ?_
      refine ⟨?_, fun a o g n t => ?_, fun a o g => ?_⟩
      · obtain ⟨ext, g1, g2⟩ := e.pre
        refine ⟨ext, g1, fun a ha => ?_⟩
        cases q : H2 a with
        | none => rfl
        | some o =>
          have := g2 a ha
          rw [wid a o q] at this; cases this
      · rw [unt_out (fun z => by rw [nT a z] at g; cases g)]
        exact e.keep a o (wid a o g) n t
      · obtain ⟨o', z⟩ := e.there a o (wid a o g)
        exact ⟨o', by rw [unt_out (fun z => by rw [nT a z] at g; cases g)]; exact z⟩
    have post : Post R (WofE E3) [] μ1 (kn T s2.heap H2) (c (.fn i) (avs ++ [.clo (lamOf params body scope) (caps env js)]) h1) Q3 := by
      revert p1
      cases c (.fn i) (avs ++ [.clo (lamOf params body scope) (caps env js)]) h1 with
      | stuck => exact fun p1 => p1
      | ok v h' =>
        intro p1 μ' H' w e hr' rv
        have p1 : Post R W σ μ1 H1 (if v.noC then .ok v h' else .stuck) Q := p1
        by_cases hnc : v.noC = true
        · rw [if_pos hnc] at p1
          exact p1 μ' (unt T H') w (evB e) (hr'.unt (okT e)) (rv.unt (okT e) hnc)
        · rw [if_neg hnc] at p1; exact p1.elim
      | exc cc x h' =>
        intro p1 μ' H' cls d e hr' rx
        have p1 : Post R W σ μ1 H1 (if x.noC then .exc cc x h' else .stuck) Q := p1
        by_cases hnc : x.noC = true
        · rw [if_pos hnc] at p1
          obtain ⟨r1, dd, ff, u, r2, r3, r4, n, r5⟩ := rx
          exact p1 μ' (unt T H') cls d (evB e) (hr'.unt (okT e)) ⟨r1, dd, ff, u, r2, r3, unt_keep (okT e) r4 (fun co z => by cases z), n, r5.unt (okT e) hnc⟩
        · rw [if_neg hnc] at p1; exact p1.elim
    -- it runs
    obtain ⟨fi, hfi⟩ : ∃ fi, R.G.fns[i]? = some fi := ⟨_, List.getElem?_eq_getElem hi⟩
    obtain ⟨fd, Fk, hb, _⟩ := C.fn i fi hfi
    have hlen := C.len i fi _ _ hfi post.ns
    have hul : (us ++ [Value.ref fa]).length = fi.ps.length := by rw [← rL.length, raL.length, hlen]
    have bnd := hb s2 (us ++ [Value.ref fa]) I2.kIn (by rw [List.append_nil]; exact hul)
    rw [List.append_nil] at bnd
    refine wpAny_call (codeAny_mono (Fk.run X.A X.stack s2 (kn T s2.heap H2) ⟨us ++ [Value.ref fa], []⟩ _ _ Q3 E3 hr e3 bnd rL ⟨R.hid, μ1, h1, _, hr3, raL, hlen, post⟩) fun r s' hq => ?_)
    have hokB : ∀ {H' : Hp} {B : Heap}, HOk X.prog X.w H' B → UntOk T H' → HOk X.prog X.w (unt T H') B := fun {H' B} hk ok a o g => by
      obtain ⟨n, g⟩ := unt_of g
      exact (hk a o g).stay (fun _ _ _ q => q) (fun b q => unt_keep ok q fun co z => by cases z) fun b xs q => unt_keep ok q fun co z => by cases z
    have frzT : ∀ {H' : Hp}, (∀ b o u, kn T s2.heap H2 b = some (.frz o u) → H' b = some (.frz o u)) → UntOk T H' := fun {H'} hz a ha => by
      obtain ⟨ob, hob⟩ := hT2 a ha
      exact .inr ⟨ob, hz a ob _ (kn_in ha hob)⟩
    have untN : ∀ {H' : Hp} {b}, (b ∉ T → H' b = none) → unt T H' b = none := fun {H' b} hz => by
      unfold unt
      split
      · rfl
      · rename_i n; exact hz n
    have notIn : ∀ {b o}, H2 b = some o → b ∉ T := fun {b o} g z => by rw [nT b z] at g; cases g
    cases r with
    | error e =>
      refine passAt tk σ pins H2 s2 e s' I2 ?_
      obtain ⟨a, B, H', cls, d, rfl, fl, hk, ub, na, os, ag, hE⟩ := hq
      have ok := frzT ub.frzs
      refine ⟨a, B, unt T H', cls, d, rfl, fl, hokB hk ok, ⟨fun b o g1 g2 g3 => ?_, ub.slot, fun b o g1 g2 => untN fun n => ub.free b o g1 (by rw [kn_out n]; exact g2), ub.there, fun b xs g1 => ?_, fun b o u g1 => ?_, fun b ps g1 => ?_⟩, unt_none na, os, ag, hE⟩
      · by_cases hb : b ∈ T
        · rcases ok b hb with z | ⟨co, z⟩
          · obtain ⟨ob, hob⟩ := hT2 b hb
            have := ub.frzs b ob _ (kn_in hb hob)
            rw [z] at this; cases this
          · obtain ⟨ob, hob⟩ := hT2 b hb
            have q := ub.frzs b ob _ (kn_in hb hob)
            rw [g1] at hob
            cases hob
            exact (hk b _ q).1
        · exact ub.keep b o g1 (by rw [kn_out hb]; exact g2) g3
      · rw [unt_out (notIn g1)]
        exact ub.tups b xs (wid _ _ g1)
      · rw [unt_out (notIn g1)]
        exact ub.frzs b o u (wid _ _ g1)
      · obtain ⟨more, z⟩ := ub.tbls b ps (wid _ _ g1)
        exact ⟨more, by rw [unt_out (notIn g1)]; exact z⟩
    | ok fl =>
      cases fl with
      | ret u =>
        obtain ⟨v, H', os, bare, un, hk, rv, q⟩ := hq
        have ok := frzT un.frzs
        refine I2.after ⟨v, unt T H', os, bare, ⟨fun b o g1 g2 g3 g4 => ?_, fun b o g1 g2 g3 g4 => un.slot b o g1 (by rw [kn_out (fun z => nfr b z g3)]; exact g2) g3 g4, fun b o g1 g2 g3 => untN fun n => un.free b o g1 (by rw [kn_out n]; exact g2) g3, un.there, fun b xs g1 => ?_, fun b o u g1 => ?_, fun b ps g1 => ?_⟩, hokB hk ok, rv, q⟩
        · by_cases hb : b ∈ T
          · obtain ⟨ob, hob⟩ := hT2 b hb
            have q := un.frzs b ob _ (kn_in hb hob)
            rw [g1] at hob
            cases hob
            exact (hk b _ q).1
          · exact un.keep b o g1 (by rw [kn_out hb]; exact g2) g3 g4
        · rw [unt_out (notIn g1)]
          exact un.tups b xs (wid _ _ g1)
        · rw [unt_out (notIn g1)]
          exact un.frzs b o u (wid _ _ g1)
        · obtain ⟨more, z⟩ := un.tbls b ps (wid _ _ g1)
          exact ⟨more, by rw [unt_out (notIn g1)]; exact z⟩
      | next => exact False.elim hq
      | brk => exact False.elim hq
      | cont => exact False.elim hq
  have p : Post R W σ μ H (bind (evArgs f init env) (fun xs h => chkC (c (.fn i) (xs ++ [.clo (lamOf params body scope) (caps env js)]) h)) h) Q := p
  cases init with
  | nil =>
    refine PySem.W.callWith_K (h₀ := X.base) I.ok.mod.kin (fkeepX F hK hi) ?_ (starEach_plain rfl) (by rfl)
    exact args_lam (lam := .Lambda params body scope lpos) rfl [] (fun e he => by cases he) rfl I S hrel p go
  | cons e r =>
    refine PySem.W.callWith_K (h₀ := X.base) I.ok.mod.kin (fkeepX F hK hi) ?_ (hs_of hplain) (hpl_of hplain)
    exact args_lam (lam := .Lambda params body scope lpos) rfl (e :: r) ha hp I S hrel p go
end
end Tp
end
section
set_option Elab.async false
set_option linter.all false
set_option maxRecDepth 100000
set_option maxHeartbeats 1000000

namespace Tp
open PySem PySem.Spec PyProof.Rows L2
section
variable {R : Rx} {X : Cx} {W : WX}

def PostS (R : Rx) (W : WX) (D : Ends) (μ : List Addr) (H : Hp) (o : Out) : Prop := match o with
  | .nx env' h' => ∀ μ' H' σ', Ev μ H μ' H' → SRel R μ' env' H' σ' → HRel R μ' h' H' → D.nx σ' H'
  | .bk env' h' => ∀ μ' H' σ', Ev μ H μ' H' → SRel R μ' env' H' σ' → HRel R μ' h' H' → D.bk σ' H'
  | .ct env' h' => ∀ μ' H' σ', Ev μ H μ' H' → SRel R μ' env' H' σ' → HRel R μ' h' H' → D.ct σ' H'
  | .rt v h' => ∀ μ' H' w, Ev μ H μ' H' → HRel R μ' h' H' → Rep R μ' H' v w → D.rt w H'
  | .exc c x env' h' => ∀ μ' H' σ' cls d, Ev μ H μ' H' → SRel R μ' env' H' σ' → HRel R μ' h' H' → ExcRep R μ' H' c x cls d → W cls d σ' H'
  | .stuck => False
def rdS (R : Rx) (W : WX) (d : DS) : TS := fun D σ H => ∃ μ env h, SRel R μ env H σ ∧ HRel R μ h H ∧ PostS R W D μ H (d env h)
abbrev AS (R : Rx) (X : Cx) (W : WX) (st : Stmt) (d : DS) : Prop := PS X st (rdS R W d)
abbrev ASs (R : Rx) (X : Cx) (W : WX) (st : List Stmt) (d : DS) : Prop := PSs X st (rdS R W d)
theorem _root_.L2.PS.imp {X : Cx} {st : Stmt} {t t' : TS} (h : PS X st t) (i : ∀ D σ H, t' D σ H → t D σ H) : PS X st t' := ⟨fun pins s σ H D I q => h.run pins s σ H D I (i D σ H q)⟩
theorem _root_.L2.PSs.imp {X : Cx} {st : List Stmt} {t t' : TS} (h : PSs X st t) (i : ∀ D σ H, t' D σ H → t D σ H) : PSs X st t' := ⟨fun pins s σ H D I q => h.run pins s σ H D I (i D σ H q)⟩
theorem PostS.ev {D : Ends} {μ μ1 : List Addr} {H H1 : Hp} {o : Out} (p : PostS R W D μ H o) (e : Ev μ H μ1 H1) : PostS R W D μ1 H1 o := by
  cases o with
  | nx a b => exact fun μ' H' σ' e' => p μ' H' σ' (e.trans e')
  | bk a b => exact fun μ' H' σ' e' => p μ' H' σ' (e.trans e')
  | ct a b => exact fun μ' H' σ' e' => p μ' H' σ' (e.trans e')
  | rt a b => exact fun μ' H' w e' => p μ' H' w (e.trans e')
  | exc c x a b => exact fun μ' H' σ' cls d e' => p μ' H' σ' cls d (e.trans e')
  | stuck => exact p
theorem as_fail {st : Stmt} : AS R X W st sFail := ps_never.imp fun D σ H ⟨_, _, _, _, _, p⟩ => p
theorem rdE_out {D : Ends} {σ : L2.St} {m : DE} {k : AV → AHp → Out} {μ : List Addr} {env : AEnv} {h : AHp} {H : Hp} {Q' : VK} (S : SRel R μ env H σ) (hr : HRel R μ h H) (p : PostS R W D μ H (outOf (m env h) env k))
    (hk : ∀ av h1 μ' H' v, Ev μ H μ' H' → SRel R μ' env H' σ → HRel R μ' h1 H' → Rep R μ' H' av v → PostS R W D μ' H' (k av h1) → Q' v H') : rdE R W m σ H Q' := by
  refine rdE_first S hr (fun av h1 e μ' H' v ev s' r' rv => ?_) (fun c x h1 e => ?_) fun e => ?_
  · rw [e] at p
    exact hk av h1 μ' H' v ev s' r' rv (p.ev ev)
  · rw [e] at p
    exact fun μ' H' cls d ev r' rx => p μ' H' σ cls d ev (S.ev hr.cells ev) r' rx
  · rw [e] at p
    exact p
theorem rdT_out {D : Ends} {σ : L2.St} {m : DT} {k : Bool → AHp → Out} {μ : List Addr} {env : AEnv} {h : AHp} {H : Hp} {Q' : Bool → Hp → Prop} (S : SRel R μ env H σ) (hr : HRel R μ h H) (p : PostS R W D μ H (outOf (m env h) env k))
    (hk : ∀ b h1 μ' H', Ev μ H μ' H' → SRel R μ' env H' σ → HRel R μ' h1 H' → PostS R W D μ' H' (k b h1) → Q' b H') : rdT R W m σ H Q' := by
  refine rdT_first S hr (fun b h1 e μ' H' ev s' r' => ?_) (fun c x h1 e => ?_) fun e => ?_
  · rw [e] at p
    exact hk b h1 μ' H' ev s' r' (p.ev ev)
  · rw [e] at p
    exact fun μ' H' cls d ev r' rx => p μ' H' σ cls d ev (S.ev hr.cells ev) r' rx
  · rw [e] at p
    exact p
theorem rdA_out {D : Ends} {σ : L2.St} {m : DA} {k : List AV → AHp → Out} {μ : List Addr} {env : AEnv} {h : AHp} {H : Hp} {Q' : List V → Hp → Prop} (S : SRel R μ env H σ) (hr : HRel R μ h H) (p : PostS R W D μ H (outOf (m env h) env k))
    (hk : ∀ avs h1 μ' H' vs, Ev μ H μ' H' → SRel R μ' env H' σ → HRel R μ' h1 H' → RepL R μ' H' avs vs → PostS R W D μ' H' (k avs h1) → Q' vs H') : rdA R W m σ H Q' := by
  refine rdA_first S hr (fun av h1 e μ' H' v ev s' r' rv => ?_) (fun c x h1 e => ?_) fun e => ?_
  · rw [e] at p
    exact hk av h1 μ' H' v ev s' r' rv (p.ev ev)
  · rw [e] at p
    exact fun μ' H' cls d ev r' rx => p μ' H' σ cls d ev (S.ev hr.cells ev) r' rx
  · rw [e] at p
    exact p
theorem rdI_out {D : Ends} {σ : L2.St} {m : DI} {k : Src → AHp → Out} {μ : List Addr} {env : AEnv} {h : AHp} {H : Hp} {Rk : It → Hp → Prop} (S : SRel R μ env H σ) (hr : HRel R μ h H) (p : PostS R W D μ H (outOf (m env h) env k))
    (hk : ∀ src h1 μ' H' J, Ev μ H μ' H' → SRel R μ' env H' σ → HRel R μ' h1 H' → WalksOf R src J μ' H' → PostS R W D μ' H' (k src h1) → Rk J H') : rdI R W m σ H Rk := by
  refine ⟨μ, env, h, S, hr, ?_⟩
  cases e : m env h with
  | ok src h1 =>
    rw [e] at p
    exact fun μ' H' J ev r' w => hk src h1 μ' H' J ev (S.ev hr.cells ev) r' w (p.ev ev)
  | exc c x h1 =>
    rw [e] at p
    exact fun μ' H' cls d ev r' rx => p μ' H' σ cls d ev (S.ev hr.cells ev) r' rx
  | stuck =>
    rw [e] at p
    exact p
theorem as_next {st : Stmt} (h : PS X st tNext) : AS R X W st sNext := h.imp fun D σ H ⟨μ, env, h, S, hr, p⟩ => p μ H σ (Ev.refl _ _) S hr
theorem as_break {pos : Pos} : AS R X W (.Break pos) sBreak := ps_break.imp fun D σ H ⟨μ, env, h, S, hr, p⟩ => p μ H σ (Ev.refl _ _) S hr
theorem as_cont {pos : Pos} : AS R X W (.Continue pos) sCont := ps_continue.imp fun D σ H ⟨μ, env, h, S, hr, p⟩ => p μ H σ (Ev.refl _ _) S hr
theorem as_drop {e : Expr} {m : DE} {pos : Pos} (he : AE R X W e m) (hs : swapsWith e none pos.line X.env = pure false) : AS R X W (.Expr e pos) (sDrop m) :=
  (ps_expr he hs).imp fun D σ H ⟨μ, env, h, S, hr, p⟩ => rdE_out S hr p fun av h1 μ1 H1 v ev S1 hr1 rv p => p μ1 H1 σ (Ev.refl _ _) S1 hr1
theorem as_ret {e : Expr} {m : DE} {pos : Pos} (he : AE R X W e m) : AS R X W (.Return (some e) pos) (sRet m) :=
  (ps_ret he).imp fun D σ H ⟨μ, env, h, S, hr, p⟩ => rdE_out S hr p fun av h1 μ1 H1 v ev S1 hr1 rv p => p μ1 H1 v (Ev.refl _ _) hr1 rv
theorem as_retN {pos : Pos} : AS R X W (.Return none pos) sRetN := ps_retN.imp fun D σ H ⟨μ, env, h, S, hr, p⟩ => p μ H .non (Ev.refl _ _) hr rfl

theorem asg_rd {own : List Nat} {m : DE} {g : DG} {D : Ends} {σ : L2.St} {H : Hp} (q : rdS R W (sAsg m g) D σ H) : tAsg (rdE R W m) (rdG R own g) D σ H := by
  obtain ⟨μ, env, h, S, hr, p⟩ := q
  refine rdE_out S hr p fun av h1 μ1 H1 v ev S1 hr1 rv p => ?_
  cases e : g av env h1 with
  | none => rw [e] at p; exact p.elim
  | some q =>
    obtain ⟨env', h'⟩ := q
    rw [e] at p
    exact ⟨μ1, env, h1, av, env', h', S1, hr1, rv, e, fun μ2 H2 σ2 ev2 S2 hr2 _ => p μ2 H2 σ2 ev2 S2 hr2⟩
theorem as_asg {own : List Nat} {tg e : Expr} {m : DE} {g : DG} {pos : Pos} (he : AE R X W e m) (hg : AG R X own tg g) (hs : swapsWithSole [tg] e pos.line X.env = pure false) (hw : swappedStores [tg] e X.env = pure none) (ht : isStar tg = false) : AS R X W (.Assign [tg] e pos) (sAsg m g) :=
  (ps_asg he hg hs hw (by rw [assignEach_cons ht] <;> rfl)).imp fun D σ H q => asg_rd q
theorem as_if {c : Expr} {a b : List Stmt} {t : DT} {da db : DS} {pos : Pos} (hc : AT R X W c t) (ha : ASs R X W a da) (hb : ASs R X W b db) : AS R X W (.If c a b pos) (sIf t da db) :=
  (ps_if hc ha hb).imp fun D σ H ⟨μ, env, h, S, hr, p⟩ => rdT_out S hr p fun b h1 μ1 H1 ev S1 hr1 p => by
    cases b with
    | true => rw [if_pos rfl]; exact ⟨μ1, env, h1, S1, hr1, p⟩
    | false => rw [if_neg Bool.false_ne_true]; exact ⟨μ1, env, h1, S1, hr1, p⟩
theorem ass_nil : ASs R X W [] sNext := pss_nil.imp fun D σ H ⟨μ, env, h, S, hr, p⟩ => p μ H σ (Ev.refl _ _) S hr
theorem ass_cons {st : Stmt} {r : List Stmt} {a b : DS} (h1 : AS R X W st a) (h2 : ASs R X W r b) : ASs R X W (st :: r) (sSeq a b) :=
  (pss_cons h1 h2).imp fun D σ H ⟨μ, env, h, S, hr, p⟩ => by
    refine ⟨μ, env, h, S, hr, ?_⟩
    have p : PostS R W D μ H (match a env h with
      | .nx env' h' => b env' h'
      | o => o) := p
    cases e : a env h with
    | nx env' h' =>
      rw [e] at p
      exact fun μ' H' σ' ev S' hr' => ⟨μ', env', h', S', hr', p.ev ev⟩
    | bk env' h' => rw [e] at p; exact p
    | ct env' h' => rw [e] at p; exact p
    | rt v h' => rw [e] at p; exact p
    | exc c x env' h' => rw [e] at p; exact p
    | stuck => rw [e] at p; exact p
theorem ass_all {f : Stmt → DS} : ∀ (l : List Stmt), (∀ st ∈ l, AS R X W st (f st)) → ASs R X W l (sSeqs (evStmts f l))
  | [], _ => ass_nil
  | st :: r, h => ass_cons (h st List.mem_cons_self) (ass_all r fun st hst => h st (List.mem_cons_of_mem _ hst))

theorem as_for (hp : PassesOwn (model X.prog X.w) X.A X.env X.xe) (hc : X.calm = true) {own : List Nat} {tg it : Expr} {body : List Stmt} {di : DI} {g : DG} {b : DS} {pos : Pos} (hi : AI R X W tg it di) (hg : AG R X own tg g) (hb : ASs R X W body b) (hs : ∀ x, foldedSetIterable it X.env x = pure x) :
    AS R X W (.For tg it body [] pos) (sFor di g b) := by
  refine (ps_for hp hc hi hg hb hs).imp fun D σ H ⟨μ, env, h, S, hr, p⟩ => ?_
  refine rdI_out S hr p fun src h1 μ1 H1 J ev S1 hr1 wk p => ?_
  -- one turn
  have turn : ∀ {next : AEnv → AHp → Out} {N : L2.St → Hp → Prop} {x : AV} {μi : List Addr} {envi : AEnv} {hi : AHp} {Hc : Hp} {v : V} {σi : L2.St}, SRel R μi envi Hc σi → HRel R μi hi Hc → Rep R μi Hc x v →
      PostS R W D μi Hc (match g x envi hi with
        | none => .stuck
        | some (env1, h1) => (match b env1 h1 with
          | .nx env2 h2 => next env2 h2
          | .ct env2 h2 => next env2 h2
          | .bk env2 h2 => .nx env2 h2
          | o => o)) → (∀ env2 h2 μ2 H2 σ2, Ev μi Hc μ2 H2 → SRel R μ2 env2 H2 σ2 → HRel R μ2 h2 H2 → PostS R W D μ2 H2 (next env2 h2) → N σ2 H2) →
      rdG R own g v σi Hc fun σ2 H2 => rdS R W b { D with nx := N, ct := N, bk := D.nx } σ2 H2 := fun {next N x μi envi hi Hc v σi} Si hri rv p hN => by
    cases eg : g x envi hi with
    | none => rw [eg] at p; exact p.elim
    | some q =>
      obtain ⟨env1, hp1⟩ := q
      rw [eg] at p
      have p : PostS R W D μi Hc (match b env1 hp1 with
        | .nx env2 h2 => next env2 h2
        | .ct env2 h2 => next env2 h2
        | .bk env2 h2 => .nx env2 h2
        | o => o) := p
      refine ⟨μi, envi, hi, x, env1, hp1, Si, hri, rv, eg, fun μ3 H3 σ3 ev3 S3 hr3 _ => ⟨μ3, env1, hp1, S3, hr3, ?_⟩⟩
      have p3 := p.ev ev3
      cases eb : b env1 hp1 with
      | nx env2 h2 =>
        rw [eb] at p3
        exact fun μ' H' σ' ev' S' hr' => hN env2 h2 μ' H' σ' (ev3.trans ev') S' hr' (p3.ev ev')
      | ct env2 h2 =>
        rw [eb] at p3
        exact fun μ' H' σ' ev' S' hr' => hN env2 h2 μ' H' σ' (ev3.trans ev') S' hr' (p3.ev ev')
      | bk env2 h2 => rw [eb] at p3; exact p3
      | rt w h2 => rw [eb] at p3; exact p3
      | exc c y env2 h2 => rw [eb] at p3; exact p3
      | stuck => rw [eb] at p3; exact p3
  cases src with
  | items xs =>
    have p : PostS R W D μ1 H1 (forL g b xs env h1) := p
    have items := wk R.hid fun a ha => .inl ha
    let Pv : Nat → L2.St → Hp → Prop := fun i σi Hc => ∃ μi envi hi, Ev μ1 H1 μi Hc ∧ SRel R μi envi Hc σi ∧ HRel R μi hi Hc ∧ PostS R W D μi Hc (forL g b (xs.drop i) envi hi)
    refine ⟨fun i m σi Hc => m = xs.length - i ∧ i ≤ xs.length ∧ Pv i σi Hc, ⟨xs.length, by simp, Nat.zero_le _, μ1, env, h1, Ev.refl _ _, S1, hr1, p⟩, ?_⟩
    rintro i m σi Hc ⟨rfl, hi, μi, envi, hpi, evi, Si, hri, pi⟩
    by_cases hlt : i < xs.length
    · refine .inr ⟨items.goes μi Hc i evi hlt, Pv (i + 1), fun σ' H' p' => ⟨xs.length - (i + 1), by omega, rfl, hlt, p'⟩, fun x H' y => ?_⟩
      obtain ⟨ev2, hr2, rx⟩ := items.yields μi Hc hpi i x H' evi hri hlt y
      have rx := rx xs[i] (List.getElem?_eq_getElem hlt)
      rw [(List.getElem_cons_drop hlt).symm] at pi
      exact turn (next := fun env2 h2 => forL g b (xs.drop (i + 1)) env2 h2) (Si.ev hri.cells ev2) hr2 rx (pi.ev ev2) fun env2 h2 μ2 H2 σ2 e2 S2 hr2' p2 => ⟨μ2, env2, h2, (evi.trans ev2).trans e2, S2, hr2', p2⟩
    · have en : i = xs.length := by omega
      subst en
      rw [List.drop_length] at pi
      exact .inl ⟨items.stops μi Hc evi, pi μi Hc σi (Ev.refl _ _) Si hri⟩
  | live n =>
    obtain ⟨a, ha, rfl⟩ := wk
    have p : PostS R W D μ1 H1 (forR g b n LF 0 env h1) := p
    let Pv : Nat → Nat → L2.St → Hp → Prop := fun i m σi Hc => ∃ μi envi hi, Ev μ1 H1 μi Hc ∧ SRel R μi envi Hc σi ∧ HRel R μi hi Hc ∧ PostS R W D μi Hc (forR g b n m i envi hi)
    refine ⟨Pv, ⟨LF, μ1, env, h1, Ev.refl _ _, S1, hr1, p⟩, ?_⟩
    rintro i m σi Hc ⟨μi, envi, hpi, evi, Si, hri, pi⟩
    have hai : μi[n]? = some a := by
      obtain ⟨ext, e1, _⟩ := evi.pre
      rw [e1, List.getElem?_append_left (List.getElem?_eq_some_iff.mp ha).1]
      exact ha
    cases m with
    | zero => exact pi.elim
    | succ m =>
      cases eo : hpi[n]? with
      | none =>
        simp only [forR, eo] at pi
        exact pi.elim
      | some o =>
        cases o with
        | lst xs =>
          obtain ⟨vs, hv, rvs, _⟩ := hri.obj n _ a eo hai
          simp only [forR, eo] at pi
          have sq : SqL R.K Hc a vs := .of hv
          have hl := rvs.length
          cases ex : xs[i]? with
          | none =>
            simp only [ex] at pi
            have : xs.length ≤ i := by
              rw [List.getElem?_eq_none_iff] at ex; exact ex
            exact .inl ⟨⟨vs, sq, by omega⟩, pi μi Hc σi (Ev.refl _ _) Si hri⟩
          | some x =>
            simp only [ex] at pi
            obtain ⟨v, hvi, rv⟩ := rvs.get ex
            refine .inr ⟨⟨vs, v, sq, hvi⟩, Pv (i + 1) m, fun σ' H' p' => ⟨m, Nat.lt_succ_self m, p'⟩, fun y H' hy => ?_⟩
            obtain ⟨rfl, hy⟩ := hy
            have := hy vs sq
            rw [hvi] at this
            cases this
            exact turn (next := fun env2 h2 => forR g b n m (i + 1) env2 h2) Si hri rv pi fun env2 h2 μ2 H2 σ2 e2 S2 hr2 p2 => ⟨μ2, env2, h2, evi.trans e2, S2, hr2, p2⟩
        | dct kvs =>
          simp only [forR, eo] at pi
          exact pi.elim
        | ins k fs =>
          simp only [forR, eo] at pi
          exact pi.elim

theorem as_while (hp : PassesOwn (model X.prog X.w) X.A X.env X.xe) {c : Expr} {body : List Stmt} {t : DT} {b : DS} {pos : Pos} (hc : AT R X W c t) (hb : ASs R X W body b) : AS R X W (.While c body [] pos) (sWhile t b) := by
  refine (ps_while hp hc hb).imp fun D σ H ⟨μ, env, h, S, hr, p⟩ => ?_
  have p : PostS R W D μ H (whileN t b LF env h) := p
  let Pv : Nat → L2.St → Hp → Prop := fun m σi Hc => ∃ μi envi hi, SRel R μi envi Hc σi ∧ HRel R μi hi Hc ∧ PostS R W D μi Hc (whileN t b m envi hi)
  refine ⟨Pv, ⟨LF, μ, env, h, S, hr, p⟩, ?_⟩
  rintro m σi Hc ⟨μi, envi, hpi, Si, hri, pi⟩
  cases m with
  | zero => exact pi.elim
  | succ m =>
    have pi : PostS R W D μi Hc (outOf (t envi hpi) envi fun c h' => if c then (match b envi h' with
      | .nx env2 h2 => whileN t b m env2 h2
      | .ct env2 h2 => whileN t b m env2 h2
      | .bk env2 h2 => .nx env2 h2
      | o => o) else .nx envi h') := pi
    refine rdT_out Si hri pi fun c h1 μ1 H1 ev S1 hr1 p1 => ?_
    cases c with
    | true =>
      rw [if_pos rfl]
      have p1 : PostS R W D μ1 H1 (match b envi h1 with
        | .nx env2 h2 => whileN t b m env2 h2
        | .ct env2 h2 => whileN t b m env2 h2
        | .bk env2 h2 => .nx env2 h2
        | o => o) := p1
      refine ⟨Pv m, fun σ' H' p' => ⟨m, Nat.lt_succ_self m, p'⟩, μ1, envi, h1, S1, hr1, ?_⟩
      cases eb : b envi h1 with
      | nx env2 h2 =>
        rw [eb] at p1
        exact fun μ' H' σ' ev' S' hr' => ⟨μ', env2, h2, S', hr', p1.ev ev'⟩
      | ct env2 h2 =>
        rw [eb] at p1
        exact fun μ' H' σ' ev' S' hr' => ⟨μ', env2, h2, S', hr', p1.ev ev'⟩
      | bk env2 h2 => rw [eb] at p1; exact p1
      | rt w h2 => rw [eb] at p1; exact p1
      | exc c y env2 h2 => rw [eb] at p1; exact p1
      | stuck => rw [eb] at p1; exact p1
    | false =>
      rw [if_neg Bool.false_ne_true]
      exact p1 μ1 H1 σi (Ev.refl _ _) S1 hr1

theorem as_par (hc : X.calm = true) (hN : X.N.Nodup) {i j : Nat} {x y : Str} {a b : Expr} {m : DA} {px py pt pos : Pos} {kt k2 : Nat} {pt2 : Pos} (hi : X.N[i]? = some x) (hj : X.N[j]? = some y) (hij : i ≠ j) (hx : X.env.scope.names.lookup x = some .local) (hy : X.env.scope.names.lookup y = some .local) (ha : AA R X W [a, b] m)
    (hw : swappedStores [.Tuple [.Name x px, .Name y py] kt pt] (.Tuple [a, b] k2 pt2) X.env = pure (some [x, y])) : AS R X W (.Assign [.Tuple [.Name x px, .Name y py] kt pt] (.Tuple [a, b] k2 pt2) pos) (sPar [i, j] m) := by
  refine (ps_par hc hN hi hj hij hx hy ha hw rfl).imp fun D σ H ⟨μ, env, h, S, hr, p⟩ => ?_
  refine rdA_out S hr p fun avs h1 μ1 H1 vs ev S1 hr1 rvs p => ?_
  match avs, rvs, p with
  | [v, w], rvs, p =>
    obtain ⟨v', w', rfl, r1, r2⟩ := RepL.two rvs
    exact ⟨v', w', rfl, p μ1 H1 _ (Ev.refl _ _) ((S1.set i r1).set j r2) hr1⟩
  | [], _, p => exact p.elim
  | [_], _, p => exact p.elim
  | _ :: _ :: _ :: _, _, p => exact p.elim

theorem as_setLc {i : Nat} {y : Str} {py : Pos} {elt tg it : Expr} {ifs : List Expr} {scope : Scope} {own : List (Str × Nat)} {di : DI} {g : DG} {t : DT} {m : DE} {pos spos : Pos} (h : CompOk R X W elt tg it ifs scope own di g t m) (hy : X.N[i]? = some y) (hyl : X.env.scope.names.lookup y = some .local)
    (hsw : swapsWith (.ListComp elt [⟨tg, it, ifs, 0⟩] scope pos) (some (.Name y py)) spos.line X.env = pure true) :
    AS R X W (.Assign [.Name y py] (.ListComp elt [⟨tg, it, ifs, 0⟩] scope pos) spos) (sAsg (eComp (own.map (·.2)) di g t m) (Tp.gName i)) := by
  refine (ps_setLc h.calm h.nd hy hyl hsw h.iter h.blk (fun s H C cl fp => agh (h.tgt s H C cl fp)) h.tst (fun s H C cl fp => aeh (h.elt s H C cl fp)) h.fold).imp fun D σ H q => ?_
  obtain ⟨μ, env, hp, S, hr, p⟩ := q
  refine comp_rd (rdE_out S hr p fun av h1 μ1 H1 v ev S1 hr1 rv p => ?_)
  exact p μ1 H1 _ (Ev.refl _ _) (S1.set i rv) hr1
end
end Tp
end
section
set_option Elab.async false
set_option linter.all false
set_option maxRecDepth 100000
set_option maxHeartbeats 1000000

namespace Tp
open PySem PySem.Spec PyProof.Rows L2

abbrev Rx.wx (R : Rx) (q : Option (Addr × Value × Option Addr)) : Rx := { R with ex := q }
theorem CloAt.wx {R : Rx} {μ : List Addr} {H : Hp} {q : Option (Addr × Value × Option Addr)} {i : LamInfo} {f : Addr} {ws : List (Option V)} (h : CloAt R μ H i f ws) : CloAt (R.wx q) μ H i f ws := h
theorem CloAt.xw {R : Rx} {μ : List Addr} {H : Hp} {q : Option (Addr × Value × Option Addr)} {i : LamInfo} {f : Addr} {ws : List (Option V)} (h : CloAt (R.wx q) μ H i f ws) : CloAt R μ H i f ws := h
mutual
theorem Rep.wx {R : Rx} {μ : List Addr} {H : Hp} {q : Option (Addr × Value × Option Addr)} (ok : R.ex = none) : ∀ {av : AV} {v : V}, Rep R μ H av v → Rep (R.wx q) μ H av v
  | .non, _, h => h
  | .bl _, _, h => h
  | .int _, _, h => h
  | .str _, _, h => h
  | .tup xs, v, h => by
    obtain ⟨a, vs, e1, h1, h2⟩ := h
    exact ⟨a, vs, e1, h1, RepL.wx ok h2⟩
  | .lst xs, v, h => by
    obtain ⟨a, vs, e1, h1, n, h2⟩ := h
    exact ⟨a, vs, e1, h1, n, RepL.wx ok h2⟩
  | .ref n, v, h => h
  | .fn _, _, h => h
  | .cls _, _, h => h
  | .xcls _, _, h => h
  | .ty _, _, h => h
  | .exc k x, v, h => by
    obtain ⟨a, d, f, u, h1, h2, h3, h4, n, h5⟩ := h
    rw [ok] at h1; cases h1
  | .obj k fs, v, h => by
    obtain ⟨a, dx, fs', e1, h1, n, k1, h2⟩ := h
    exact ⟨a, dx, fs', e1, h1, n, k1, RepF.wx ok h2⟩
  | .clo i cs, v, h => by
    obtain ⟨f, ws, e1, h1, h2⟩ := h
    exact ⟨f, ws, e1, h1, RepO.wx ok h2⟩
  | .dct _, _, h => h
theorem RepL.wx {R : Rx} {μ : List Addr} {H : Hp} {q : Option (Addr × Value × Option Addr)} (ok : R.ex = none) : ∀ {xs : List AV} {vs : List V}, RepL R μ H xs vs → RepL (R.wx q) μ H xs vs
  | [], _, h => h
  | x :: xs, vs, h => by
    obtain ⟨v, r, e1, h1, h2⟩ := h
    exact ⟨v, r, e1, Rep.wx ok h1, RepL.wx ok h2⟩
theorem RepF.wx {R : Rx} {μ : List Addr} {H : Hp} {q : Option (Addr × Value × Option Addr)} (ok : R.ex = none) : ∀ {xs : List (Str × AV)} {vs : List (Str × V)}, RepF R μ H xs vs → RepF (R.wx q) μ H xs vs
  | [], _, h => h
  | (f, x) :: xs, vs, h => by
    obtain ⟨v, r, e1, h1, h2⟩ := h
    exact ⟨v, r, e1, Rep.wx ok h1, RepF.wx ok h2⟩
theorem RepO.wx {R : Rx} {μ : List Addr} {H : Hp} {q : Option (Addr × Value × Option Addr)} (ok : R.ex = none) : ∀ {xs : List (Option AV)} {vs : List (Option V)}, RepO R μ H xs vs → RepO (R.wx q) μ H xs vs
  | [], _, h => h
  | none :: xs, vs, h => by
    obtain ⟨v, r, e1, h2⟩ := h
    exact ⟨v, r, e1, RepO.wx ok h2⟩
  | some x :: xs, vs, h => by
    obtain ⟨v, r, e1, h1, h2⟩ := h
    exact ⟨v, r, e1, Rep.wx ok h1, RepO.wx ok h2⟩
end
mutual
theorem Rep.xw {R : Rx} {μ : List Addr} {H : Hp} {q : Option (Addr × Value × Option Addr)} : ∀ {av : AV} {v : V}, av.noX = true → Rep (R.wx q) μ H av v → Rep R μ H av v
  | .non, _, _, h => h
  | .bl _, _, _, h => h
  | .int _, _, _, h => h
  | .str _, _, _, h => h
  | .tup xs, v, ok, h => by
    obtain ⟨a, vs, e1, h1, h2⟩ := h
    exact ⟨a, vs, e1, h1, RepL.xw ok h2⟩
  | .lst xs, v, ok, h => by
    obtain ⟨a, vs, e1, h1, n, h2⟩ := h
    exact ⟨a, vs, e1, h1, n, RepL.xw ok h2⟩
  | .ref n, v, _, h => h
  | .fn _, _, _, h => h
  | .cls _, _, _, h => h
  | .xcls _, _, _, h => h
  | .ty _, _, _, h => h
  | .exc k x, v, ok, h => by cases ok
  | .obj k fs, v, ok, h => by
    obtain ⟨a, dx, fs', e1, h1, n, k1, h2⟩ := h
    exact ⟨a, dx, fs', e1, h1, n, k1, RepF.xw ok h2⟩
  | .clo i cs, v, ok, h => by
    obtain ⟨f, ws, e1, h1, h2⟩ := h
    exact ⟨f, ws, e1, h1, RepO.xw ok h2⟩
  | .dct _, _, _, h => h
theorem RepL.xw {R : Rx} {μ : List Addr} {H : Hp} {q : Option (Addr × Value × Option Addr)} : ∀ {xs : List AV} {vs : List V}, AV.noXs xs = true → RepL (R.wx q) μ H xs vs → RepL R μ H xs vs
  | [], _, _, h => h
  | x :: xs, vs, ok, h => by
    obtain ⟨v, r, e1, h1, h2⟩ := h
    simp only [AV.noXs, Bool.and_eq_true] at ok
    exact ⟨v, r, e1, Rep.xw ok.1 h1, RepL.xw ok.2 h2⟩
theorem RepF.xw {R : Rx} {μ : List Addr} {H : Hp} {q : Option (Addr × Value × Option Addr)} : ∀ {xs : List (Str × AV)} {vs : List (Str × V)}, AV.noXf xs = true → RepF (R.wx q) μ H xs vs → RepF R μ H xs vs
  | [], _, _, h => h
  | (f, x) :: xs, vs, ok, h => by
    obtain ⟨v, r, e1, h1, h2⟩ := h
    simp only [AV.noXf, Bool.and_eq_true] at ok
    exact ⟨v, r, e1, Rep.xw ok.1 h1, RepF.xw ok.2 h2⟩
theorem RepO.xw {R : Rx} {μ : List Addr} {H : Hp} {q : Option (Addr × Value × Option Addr)} : ∀ {xs : List (Option AV)} {vs : List (Option V)}, AV.noXo xs = true → RepO (R.wx q) μ H xs vs → RepO R μ H xs vs
  | [], _, _, h => h
  | none :: xs, vs, ok, h => by
    obtain ⟨v, r, e1, h2⟩ := h
    exact ⟨v, r, e1, RepO.xw ok h2⟩
  | some x :: xs, vs, ok, h => by
    obtain ⟨v, r, e1, h1, h2⟩ := h
    simp only [AV.noXo, Bool.and_eq_true] at ok
    exact ⟨v, r, e1, Rep.xw ok.1 h1, RepO.xw ok.2 h2⟩
end
mutual
theorem AV.pure_noX : ∀ {av : AV}, av.pure = true → av.noX = true
  | .non, _ | .bl _, _ | .int _, _ | .str _, _ | .ref _, _ | .fn _, _ | .cls _, _ | .xcls _, _ | .ty _, _ | .dct _, _ => rfl
  | .tup xs, h => AV.pureAll_noX (xs := xs) h
  | .lst xs, h => AV.pureAll_noX (xs := xs) h
  | .obj _ fs, h => AV.pureF_noX (fs := fs) h
  | .exc _ _, h => by cases h
  | .clo _ _, h => by cases h
theorem AV.pureAll_noX : ∀ {xs : List AV}, AV.pureAll xs = true → AV.noXs xs = true
  | [], _ => rfl
  | x :: r, h => by
    simp only [AV.pureAll, Bool.and_eq_true] at h
    simp only [AV.noXs, Bool.and_eq_true]
    exact ⟨AV.pure_noX h.1, AV.pureAll_noX h.2⟩
theorem AV.pureF_noX : ∀ {fs : List (Str × AV)}, AV.pureF fs = true → AV.noXf fs = true
  | [], _ => rfl
  | (_, x) :: r, h => by
    simp only [AV.pureF, Bool.and_eq_true] at h
    simp only [AV.noXf, Bool.and_eq_true]
    exact ⟨AV.pure_noX h.1, AV.pureF_noX h.2⟩
end
section
variable {R : Rx} {μ : List Addr} {H : Hp} {q : Option (Addr × Value × Option Addr)}
theorem ObjRep.wx (ok : R.ex = none) {o : AObj} {a : Addr} (h : ObjRep R μ H o a) : ObjRep (R.wx q) μ H o a := by
  cases o with
  | lst xs =>
    obtain ⟨vs, z, r, p⟩ := h
    exact ⟨vs, z, r.wx ok, p⟩
  | ins c fs =>
    obtain ⟨dx, ws, z, k, r, p⟩ := h
    exact ⟨dx, ws, z, k, r.wx ok, p⟩
  | dct kvs => exact h
theorem ObjRep.xw {o : AObj} {a : Addr} (h : ObjRep (R.wx q) μ H o a) : ObjRep R μ H o a := by
  cases o with
  | lst xs =>
    obtain ⟨vs, z, r, p⟩ := h
    exact ⟨vs, z, r.xw (AV.pureAll_noX p), p⟩
  | ins c fs =>
    obtain ⟨dx, ws, z, k, r, p⟩ := h
    exact ⟨dx, ws, z, k, r.xw (AV.pureF_noX p), p⟩
  | dct kvs => exact h
theorem HRel.wx (ok : R.ex = none) {h : AHp} (r : HRel R μ h H) : HRel (R.wx q) μ h H := ⟨r.len, r.nd, fun i o a h1 h2 => (r.obj i o a h1 h2).wx ok, r.tabs, r.hid⟩
theorem HRel.xw {h : AHp} (r : HRel (R.wx q) μ h H) : HRel R μ h H := ⟨r.len, r.nd, fun i o a h1 h2 => (r.obj i o a h1 h2).xw, r.tabs, r.hid⟩
theorem SRel.wx (ok : R.ex = none) {env : AEnv} {σ : L2.St} (S : SRel R μ env H σ) : SRel (R.wx q) μ env H σ := ⟨S.len, fun i av q => let ⟨v, h1, h2⟩ := S.slot i av q; ⟨v, h1, h2.wx ok⟩⟩
theorem SRel.xw {env : AEnv} {σ : L2.St} (S : SRel (R.wx q) μ env H σ) : SRel R μ (wipeX env) H σ := by
  refine ⟨by unfold wipeX; rw [List.length_map, S.len], fun i av h => ?_⟩
  unfold wipeX at h
  rw [List.getElem?_map] at h
  cases e : env[i]? with
  | none => rw [e] at h; cases h
  | some o =>
    rw [e] at h
    cases o with
    | none => cases h
    | some v =>
      simp only [Option.map_some] at h
      by_cases hn : v.noX = true
      · rw [if_pos hn] at h
        cases h
        obtain ⟨v, h1, h2⟩ := S.slot i _ e
        exact ⟨v, h1, h2.xw hn⟩
      · rw [if_neg hn] at h
        cases h
end
section
variable {R : Rx} {X : Cx} {W : WX}
theorem as_try (F : Facts R X.mg) (hK : X.K = R.K) (ho : R.ex = none) (hs : X.stack = X.env :: X.outer) (hf : X.env.frame = some X.env.locals) (hN : X.N.Nodup) {i d : Nat} {x n : Str} {np pos pos' : Pos} {body suite : List Stmt} {b₀ : Stmt} {b u : DS}
    (hi : X.N[i]? = some n) (hln : X.env.kindOf n = some .local) (hd : d < R.G.excs.length) (hc : Names X x (.ref (R.xa d))) (tk : Takes X W)
    (hb : ∀ (W : WX) (pn : List (Addr × Obj)) (xe : Value → Shared → Prop), Takes (X.tr pn xe) W → PassesOwn (model X.prog X.w) X.A X.env xe → ASs R (X.tr pn xe) W body b)
    (hu : ∀ (a : Addr) (oe : Obj) (cls : Value) (dd : Option Addr) (pn : List (Addr × Obj)), Zc cls dd oe → (∃ vs, oe.data = .fields vs) → ASs (R.wx (some (a, cls, dd))) (X.suite a ((a, oe) :: pn)) W0 (b₀ :: suite) u) :
    AS R X W (.Try body [.ExceptHandler (some (.Name x np)) (some n) (b₀ :: suite) pos'] [] [] pos) (sTry R.G d i b u) := by
  refine (ps_try_as (tb := fun W => rdS R W b) (ts := fun a cls dd => rdS (R.wx (some (a, cls, dd))) W0 u) hs hf hN hi hln hc tk hb hu).imp fun D σ H ⟨μ, env, h, S, hr, p⟩ => ⟨μ, env, h, S, hr, ?_⟩
  have p : PostS R W D μ H (match b env h with
    | .exc c x env' h' => (match R.G.excs[c]? with
      | some e => if e.up.contains d then (match u (env'.set i (some (.exc c x))) h' with
          | .nx env2 h2 => .nx (wipeX (env2.set i none)) h2
          | .bk env2 h2 => .bk (wipeX (env2.set i none)) h2
          | .ct env2 h2 => .ct (wipeX (env2.set i none)) h2
          | .rt v h2 => if v.noX then .rt v h2 else .stuck
          | _ => .stuck) else .exc c x env' h'
      | none => .stuck)
    | o => o) := p
  cases e : b env h with
  | nx env' h' => rw [e] at p; exact p
  | bk env' h' => rw [e] at p; exact p
  | ct env' h' => rw [e] at p; exact p
  | rt v h' => rw [e] at p; exact p
  | stuck => rw [e] at p; exact p
  | exc c x env' h' =>
    rw [e] at p
    simp only at p
    intro μ1 H1 σ1 cls dd ev S1 hr1 rx
    obtain ⟨rfl, d1, f, v, rfl, hf1, hx, hn, rv⟩ := id rx
    cases eg : R.G.excs[c]? with
    | none => rw [eg] at p; exact p.elim
    | some ei =>
      rw [eg] at p
      simp only at p
      have hx2 := (F.xis c ei d eg hd).2
      refine ⟨ei.up.contains d, by rw [hK]; exact hx2, fun hbt a ha => ?_, fun hbf => ?_⟩
      · rw [if_pos hbt] at p
        have rex : Rep (R.wx (some (a, .ref (R.xa c), some d1))) μ1 H1 (.exc c x) (.ref a) := ⟨a, d1, f, v, rfl, rfl, hf1, hx, hn, rv.wx ho⟩
        refine ⟨μ1, env'.set i (some (.exc c x)), h', (S1.wx ho).set i rex, hr1.wx ho, ?_⟩
        have p := p.ev ev
        cases eu : u (env'.set i (some (.exc c x))) h' with
        | nx env2 h2 =>
          rw [eu] at p
          exact fun μ2 H2 σ2 e2 S2 r2 => p μ2 H2 _ e2 ((S2.unset i).xw) r2.xw
        | bk env2 h2 =>
          rw [eu] at p
          exact fun μ2 H2 σ2 e2 S2 r2 => p μ2 H2 _ e2 ((S2.unset i).xw) r2.xw
        | ct env2 h2 =>
          rw [eu] at p
          exact fun μ2 H2 σ2 e2 S2 r2 => p μ2 H2 _ e2 ((S2.unset i).xw) r2.xw
        | rt w h2 =>
          rw [eu] at p
          simp only at p
          by_cases hw : w.noX = true
          · rw [if_pos hw] at p
            exact fun μ2 H2 v2 e2 r2 rv2 => p μ2 H2 v2 e2 r2.xw (rv2.xw hw)
          · rw [if_neg hw] at p
            exact p.elim
        | exc c2 x2 env2 h2 => rw [eu] at p; exact p.elim
        | stuck => rw [eu] at p; exact p.elim
      · rw [if_neg (by rw [hbf]; exact Bool.false_ne_true)] at p
        exact p μ1 H1 σ1 _ _ ev S1 hr1 rx
end
end Tp
end
section
set_option Elab.async false
set_option linter.all false
set_option maxRecDepth 100000
set_option maxHeartbeats 2000000

namespace Tp
open PySem PySem.W PySem.Calls PyProof.Rows PySem.HandSPX

def xcA (y : Str) (p1 p2 : Pos) : Arguments := { posonlyargs := [], args := [{ arg := "self", annotation := none, pos := p1 }, { arg := y, annotation := none, pos := p2 }], vararg := none, kwonlyargs := [], kw_defaults := [], kwarg := none, defaults := [] }
def xcB (f y : Str) (a0 a1 a2 a3 a4 q1 q2 q3 q4 : Pos) : List Stmt := [.Expr (.Call (.Attribute (.Call (.Name "super" a0) [] [] a1) "__init__" a2) [] [] a3) a4, .Assign [.Attribute (.Name "self" q1) f q2] (.Name y q3) q4]

structure XcTxt (prog : Program) (K : Frag) (mg : Str → Option Value) (C fI : Addr) (f y : Str) : Prop where
  cls : ∃ nm q N bs bm sn sub ab col dd k0 k1 k2 k3 k5, K.lookup C = some (excClassObj nm q C N bs bm true sn sub ab col dd k0 k1 k2 k3 k5 "ValueError.__new__") ∧ refsVE bm = true
  sa : findIn K (.ref C) "__setattr__" = some (some (.builtin "object.__setattr__"))
  noF : findIn K (.ref C) f = some none
  iC : findIn K (.ref C) "__init__" = some (some (.ref fI))
  tC : typeIn K (.ref fI) = some (.type "function")
  kC : keepIn K (.ref C) = true
  exC : subIn K (.ref C) (.type "BaseException") = some true
  veC : subIn K (.ref C) (.type "ValueError") = some true
  tyC : typeIn K (.ref C) = some (.type "type")
  mro : mroIn K C (.ref C) = some true
  sup : ks_superIn K C C "__init__" = some (some (.builtin "ValueError.__init__"))
  tp : nsIn K cStatics "thirdparty.any" = some none
  su : mg "super" = none
  top : (prog.main.scope.names.lookup ("super" : Str)).isSome = false
  yne : (("self" : Str) == y) = false
  ydb : (y == ("__debug__" : Str)) = false
  fn : ∃ (oc : Value) (od : Option Addr) (qual : Str) (scope : Scope) (doc pm : Value) (an : Option Addr) (cda cc : Addr) (ct : Value) (osl : Array (Option Value)) (p1 p2 a0 a1 a2 a3 a4 q1 q2 q3 q4 : Pos),
    K.lookup fI = some ⟨oc, od, .func (ksFn "__init__" qual (xcA y p1 p2) (xcB f y a0 a1 a2 a3 a4 q1 q2 q3 q4) scope .none .none doc pm an (.ref cda) ct cc), osl⟩ ∧ codeIn K (.ref cda) qual = true ∧ (a2.endLine == a3.line) = true ∧
    (scope.names.all fun x => !(x.2 == .cell)) = true ∧ scope.isCoroutine = false ∧ scope.isGenerator = false ∧ scope.kind = .function ∧
    scope.names.lookup ("super" : Str) = some .globalImplicit ∧ scope.names.lookup ("__class__" : Str) = some .free ∧ scope.names.lookup ("self" : Str) = some .local ∧ scope.names.lookup y = some .local ∧
    (∃ ccl cdd vs ccs file tf, K.lookup cda = some ⟨ccl, cdd, .fields vs, ccs⟩ ∧ vs[2]? = some (.str file tf) ∧ ((prog.main.file : Str) == file) = true) ∧
    (∃ cl cld csl, K.lookup cc = some ⟨cl, cld, .cell (some (.ref C)), csl⟩)

structure XcEnd (h h' : Heap) (x C dx t1 : Addr) (f : Str) (v : Value) : Prop where
  keep : ∀ b o, b ≠ x → h.get? b = some o → h'.get? b = some o
  obj : h'.get? x = some { cls := .ref C, dict := some dx, data := .fields #[.ref t1, .none, .none, .none, .bool false, .none] }
  dbig : h.objs.size ≤ dx
  dne : dx ≠ x
  ns : h'.Ns1 dx (fun y => if y = f then some v else none)

structure XcMade (h h' : Heap) (e C d : Addr) (f : Str) (v : Value) : Prop where
  keep : ∀ b o, h.get? b = some o → h'.get? b = some o
  new : h.objs.size ≤ e
  obj : ∃ oe vs, h'.get? e = some oe ∧ oe.cls = .ref C ∧ oe.dict = some d ∧ oe.data = .fields vs ∧ vs[1]? = some .none
  dbig : h.objs.size ≤ d
  dne : d ≠ e
  ns : h'.Ns1 d (fun y => if y = f then some v else none)
section
variable {prog : Program} {w : World} {A : Around} {E : Value → Shared → Prop} {R : Result → Shared → Prop} {s : Shared} {K : Frag} {mg : Str → Option Value} {C fI : Addr} {f y : Str}
theorem xc_lookup {x v : Value} (hy : (("self" : Str) == y) = false) : ([(("self" : Str), x), (y, v)] : List (Str × Value)).reverse.lookup y = some v ∧ ([(("self" : Str), x), (y, v)] : List (Str × Value)).reverse.lookup ("self" : Str) = some x := by
  constructor
  · show List.lookup y [(y, v), (("self" : Str), x)] = _
    simp [List.lookup]
  · show List.lookup ("self" : Str) [(y, v), (("self" : Str), x)] = _
    rw [List.lookup_cons, hy]
    simp [List.lookup]
theorem mcall_pos {o : Expr} {env : Env} {apos pos : Pos} (h : (apos.endLine == pos.line) = true) : methodCallPos true o env apos pos = pure pos := by
  unfold methodCallPos
  rw [h]
  rfl
theorem mcall_eq {o : Expr} {name : Str} {env : Env} {apos pos : Pos} (h : (apos.endLine == pos.line) = true) : eval (.Call (.Attribute o name apos) [] [] pos) env = (do
      let ov ← attributeBase o name env (eval o env)
      standAt apos.atName
      let (f, first) ← holding [ov] (getMethod ov name (do return (← importBound o env).getD true))
      callWith pos f first (backTo pos (starEach [] env)) []) := by
  have e : methodCallPos true o env apos pos = pure pos := mcall_pos h
  show (do
      let ov ← attributeBase o name env (eval o env)
      standAt apos.atName
      let x ← holding [ov] (getMethod ov name (do return (← importBound o env).getD true))
      let cp ← methodCallPos true o env apos pos
      callWith cp x.1 x.2 (backTo pos (starEach [] env)) []) = _
  rw [e]
  simp only [pure_bind]
theorem one_size' (v : Value) : [v].length ≤ sizeLine := by
  rw [sizeLine_eq]
  exact (by decide : 1 ≤ 16777216)

theorem xc_call {x C t u : Addr} {Q : Value → Shared → Prop} (T : XcTxt prog K mg C fI f y) (X : K.In s.heap) (hx : s.heap.get? x = some (excO C t)) (hu : s.heap.get? u = some (kxs_mw "ValueError.__init__" x))
    (hq : ∀ h', (∀ b o, b ≠ x → s.heap.get? b = some o → h'.get? b = some o) → h'.get? x = some (excO C s.heap.objs.size) → Q .none { s with heap := h' }) : wpAny (model prog w) A (call (.ref u) []) Q E s := by
  obtain ⟨nm, q, N, bs, bm, sn, sub, ab, col, dd, k0, k1, k2, k3, k5, hC, hbm⟩ := T.cls
  have FB := F.excBase_ValueError
  have hC' := X _ _ hC
  obtain ⟨hh, g, d, tk, os⟩ := s
  refine wpAny_call (codeAny_of_tree ?_)
  show wpAny _ A.in1 (callAny (.ref u) ⟨[], []⟩) _ _ _
  simp only [callAny]
  refine wpAny_bind (wpAny_load hu ?_)
  simp only [kxs_mw, show (Value.type "method-wrapper" == Value.type "method" || Value.type "method-wrapper" == Value.type "builtin_function_or_method" || Value.type "method-wrapper" == Value.type "method-wrapper") = true by decide, if_true]
  refine KFB.if_so (by decide) ?_
  refine wpAny_bind (check_bound_init FB.toExcCallFacts hC' hx rfl ?_)
  refine wpAny_bind (wpAny_pure (wpAny_pure ?_))
  refine ⟨plainId_quiet FB.init.plain _, codeAny_builtin FB.initEntry ?_⟩
  exact exc_init_tree (cls := .ref C) (t0 := t) (dv := none) (c2 := .none) (c3 := .none) (b4 := .bool false) hx (by show 0 ≤ sizeLine; exact Nat.zero_le _) fun h' k e' t' => hq h' k e'
theorem xc_init (T : XcTxt prog K mg C fI f y) {x t0 : Addr} {v : Value} {mb : Str → Option Value} (X : K.In s.heap) (hlim : s.heap.NoLimit) (hG : s.heap.Ns mainGlobals mg) (hB : s.heap.Ns builtinsNs mb) (hb : mb "super" = some (.type "super")) (hx : s.heap.get? x = some (excO C t0)) (hnx : K.lookup x = none)
    (hroom : A.depth < recursionLimit) (hq : ∀ h' tk dx t1, XcEnd s.heap h' x C dx t1 f v → R (.ok (.ret .none)) { s with heap := h', toks := tk }) :
    codeAny (model prog w) A (.call (.ref fI) ⟨[.ref x, v], []⟩) R s := by
  obtain ⟨oc, od, qual, scope, doc, pm, an, cda, cc, ct, osl, p1, p2, a0, a1, a2, a3, a4, q1, q2, q3, q4, ho, hcd, hln, hce, hco, hge, hk, hs1, hs2, hs3, hs4, ⟨ccl, cdd, vs, ccs, file, tf, hcode, hvs, hfile⟩, ⟨cl, cld, csl, hcell⟩⟩ := T.fn
  obtain ⟨nm, q, N, bs, bm, sn, sub, ab, col, dd, k0, k1, k2, k3, k5, hC, hbm⟩ := T.cls
  have hcl : clsIn K C = some { name := nm, bases := bs, mro := .ref C :: bm, ns := N, qualname := q, hasDict := true, slotNames := sn, subclasses := sub, abstract := ab, collection := col, hasDel := false } := by unfold clsIn; rw [hC] <;> rfl
  have hyy := T.yne
  refine ks_codeAny_call_defAt (fd := ksFn "__init__" qual (xcA y p1 p2) (xcB f y a0 a1 a2 a3 a4 q1 q2 q3 q4) scope .none .none doc pm an (.ref cda) ct cc) (body := xcB f y a0 a1 a2 a3 a4 q1 q2 q3 q4) (binds := [("self", .ref x), (y, v)]) hroom (X _ _ ho) rfl hlim (codeRec_of X hcd) rfl
    (BindsTo.of_eq (bind_all (ps := ["self", y]) (us := [.ref x, v]) rfl rfl rfl (by simp only [List.nodup_cons, List.mem_singleton, List.not_mem_nil, not_false_eq_true, List.nodup_nil, and_true]; intro e; rw [← e] at hyy; simp at hyy) rfl)) (fun z hz => ?_) (fun z hz => ?_) (fun h₁ hns k => ?_) hco hge hk
  · have := List.all_eq_true.mp hce z hz
    intro e
    rw [e] at this
    exact absurd this (by decide)
  · rcases List.mem_cons.mp hz with e | hz
    · rw [e]; exact hs3
    · rcases List.mem_cons.mp hz with e | hz
      · rw [e]; exact hs4
      · cases hz
  have X₁ : K.In h₁ := X.keeps k
  have hx₁ := k _ _ hx
  have hxL : s.heap.objs.size ≠ x := Nat.ne_of_gt (Heap.lt_size hx)
  obtain ⟨hh, g, d, tk0, os⟩ := s
  show PySem.wpAt (model prog w) (A.deeper (ksEnv qual scope hh.objs.size fI (.ref cda) cc)) (.func _ (ksEnv qual scope hh.objs.size fI (.ref cda) cc)) (execs _ (ksEnv qual scope hh.objs.size fI (.ref cda) cc)) _ _ _
  refine ks_wpAt_execs_cons (ks_wpAt_Expr_any (ks_wpAt_MethodCall (pl := (do return (← importBound (.Call (.Name "super" a0) [] [] a1) (ksEnv qual scope hh.objs.size fI (.ref cda) cc)).getD true)) ?_ (mcall_eq hln)) (by show (scope.kind == .module && _) = false; rw [hk]; rfl) (by rfl))
  have I₁ : InstAt h₁ x (excO C t0) C none := ⟨hx₁, rfl, rfl, trivial⟩
  refine ks_wpAt_super_base (env := ksEnv qual scope hh.objs.size fI (.ref cda) cc) hs1 hs2 (by decide) rfl (X₁ _ _ ho) rfl (ar := { arg := "self", annotation := none, pos := p1 }) rfl rfl (X₁ _ _ hcode) rfl hvs hfile T.top ?_
  refine ks_loadName_global hk hs1 (loadGlobal_builtin (env := ksEnv qual scope hh.objs.size fI (.ref cda) cc) (hG.keeps k) T.su (hB.keeps k) hb ⟨rfl, ?_⟩)
  refine wpAny_loadName_free hk hs2 rfl ⟨_, X₁ _ _ hcell, rfl⟩ ?_
  refine wpAny_loadName_local hk hs3 hns (xc_lookup T.yne).2 ?_
  refine ks_wpAny_isType_cls (X₁ _ _ hC) rfl ⟨rfl, ?_⟩
  refine ks_wpAny_call_super (X₁ _ _ hC) rfl hx₁ rfl (fun c e => by cases e) (looks_mroIn X₁ T.mro) (fun h₂ e₂ k₂ => ?_)
  have X₂ : K.In h₂ := X₁.keeps k₂
  have hx₂ := k₂ _ _ hx₁
  have I₂ : InstAt h₂ x (excO C t0) C none := ⟨hx₂, rfl, rfl, trivial⟩
  have hI₂ : Looks (model prog w) h₂ (isInstance (.ref x) (.type "ValueError")) true := I₂.type.andThen (looks_subIn X₂ T.veC)
  have hm := T.sup
  unfold ks_superIn at hm
  rw [hcl] at hm
  refine kxs_getMethod kxs_ValueError e₂ (looks_opaque X₂ T.tp) (l₀ := .ref C :: bm) ?_ rfl X₂ hm hI₂ (ks_ne X₂ I₂ hcl) (by decide) ?_
  · exact fun A Q E s k q => wpAny_bind ((looks_clsIn X₂ hcl) A _ E s k (wpAny_pure q))
  have e₃ : (h₂.push (kxs_mw "ValueError.__init__" x)).get? h₂.objs.size = some (kxs_mw "ValueError.__init__" x) := Heap.get?_push_at rfl rfl
  have k₃ : ∀ b o, h₂.get? b = some o → (h₂.push (kxs_mw "ValueError.__init__" x)).get? b = some o := fun b o e => Heap.get?_push_of_some _ e
  refine kxs_callWith (i := "ValueError.__init__") (x := x) rfl (evalArgs_empty ⟨e₃, ?_⟩)
  refine xc_call (s := ⟨h₂.push (kxs_mw "ValueError.__init__" x), g, d, _, os⟩) T (X₂.keeps k₃) (k₃ _ _ hx₂) e₃ fun h₄ k₄ hx₄ => ?_
  have old : ∀ b o, b ≠ x → h₁.get? b = some o → h₄.get? b = some o := fun b o hb e => k₄ b o hb (k₃ _ _ (k₂ _ _ e))
  have X₄ : K.In h₄ := fun a o e => old a o (fun z => by rw [z, hnx] at e; cases e) (X₁ a o e)
  have hn₄ : h₄.Ns hh.objs.size (fun z => ([("self", .ref x), (y, v)] : List (Str × Value)).reverse.lookup z) := by
    obtain ⟨oL, es, ep, hL, r⟩ := hns
    exact ⟨oL, es, ep, old _ _ hxL hL, r⟩
  show PySem.wpAt (model prog w) _ _ (execs _ (ksEnv qual scope hh.objs.size fI (.ref cda) cc)) _ _ _
  refine ks_wpAt_execs_cons (wpAt_of_wpAny (plainObj_wpAny_Assign_Attribute ?_))
  refine wpAny_Name (wpAny_loadName_local hk hs4 hn₄ (xc_lookup T.yne).1 ?_) T.ydb
  refine wpAny_Name (wpAny_loadName_local hk hs3 hn₄ (xc_lookup T.yne).2 ?_) (by decide)
  refine set_plain X₄ (ox := excO C _) (od := none) ⟨hx₄, rfl, rfl, trivial⟩ T.sa ?_
  refine exc_osa X₄ hx₄ hcl (show refsVE (.ref C :: bm) = true from hbm) rfl T.noF (fun h₅ tk₅ dx k₅ dn dne hx₅ hn₅ => ?_)
  show PySem.wpAt (model prog w) _ _ (execs [] (ksEnv qual scope hh.objs.size fI (.ref cda) cc)) _ _ _
  refine wpAt_of_wpAny (wpAny_execs_nil (hq h₅ tk₅ dx _ ⟨fun b o hb e => k₅ b o hb (old b o hb (k b o e)), hx₅, ?_, dne, hn₅⟩))
  have z : hh.objs.size < h₄.objs.size := hn₄.lt
  exact Nat.le_of_lt (Nat.lt_of_lt_of_le z dn)
theorem xc_made (T : XcTxt prog K mg C fI f y) {v : Value} {mb : Str → Option Value} (X : K.In s.heap) (hlim : s.heap.NoLimit) (hG : s.heap.Ns mainGlobals mg) (hB : s.heap.Ns builtinsNs mb) (hb : mb "super" = some (.type "super")) (hroom : A.depth + 1 < recursionLimit)
    (hq : ∀ h' tk e d, XcMade s.heap h' e C d f v → R (.ok (.ret (.ref e))) { s with heap := h', toks := tk }) :
    codeAny (model prog w) A (.call (.ref C) ⟨[v], []⟩) R s := by
  obtain ⟨nm, q, N, bs, bm, sn, sub, ab, col, dd, k0, k1, k2, k3, k5, hC, hbm⟩ := T.cls
  obtain ⟨hp, g, dr, tk, os⟩ := s
  have k : ∀ b o, hp.get? b = some o → ((hp.push (kdv_tup [v])).push (excO C hp.objs.size)).get? b = some o := fun b o e => Heap.get?_push_of_some _ (Heap.get?_push_of_some _ e)
  have hget : ((hp.push (kdv_tup [v])).push (excO C hp.objs.size)).get? (hp.objs.size + 1) = some (excO C hp.objs.size) := by heap_get
  have hnx : K.lookup (hp.objs.size + 1) = none := by
    cases e : K.lookup (hp.objs.size + 1) with
    | none => rfl
    | some o =>
      have z : hp.get? (hp.objs.size + 1) = some o := X _ _ e
      exact absurd (Nat.lt_of_succ_lt (Heap.lt_size z)) (Nat.lt_irrefl _)
  refine call_own F.excBase_ValueError (fun X => refsVE_contains X bm hbm) (X _ _ hC) (looks_findIn X T.iC) (fun self => bind_fn X self T.tC) (one_size' v) ?_
  refine xc_init (s := ⟨(hp.push (kdv_tup [v])).push (excO C hp.objs.size), g, dr, tk, os⟩) T (X.keeps k) (hlim.keeps k) (hG.keeps k) (hB.keeps k) hb hget hnx ?_ fun h' tk' dx t1 ⟨k', hx, dn, dne, hns⟩ => ?_
  · show A.depth + 1 < recursionLimit
    exact hroom
  · have old : ∀ b o, hp.get? b = some o → h'.get? b = some o := fun b o e => k' b o (Nat.ne_of_lt (Nat.lt_succ_of_lt (Heap.lt_size e))) (k b o e)
    have z : hp.objs.size + 1 + 1 ≤ dx := by
      first
        | (simpa only [Heap.size_push] using dn)
        | exact dn
        | (have q := dn; rw [Heap.size_push, Heap.size_push] at q; exact q)
    exact ⟨rfl, hq h' tk' (hp.objs.size + 1) dx ⟨old, Nat.le_succ _, ⟨_, _, hx, rfl, rfl, rfl, rfl⟩, Nat.le_trans (Nat.le_trans (Nat.le_succ _) (Nat.le_succ _)) z, dne, hns⟩⟩
end
end Tp
namespace Tp
open PySem PySem.Spec PyProof.Rows L2
theorem relO_xc {f : Str} {v : V} {v' : Value} (r : RelV v v') (g : Str) : RelO (List.lookup g [(f, v)]) (if g = f then some v' else none) := by
  by_cases hw : g = f
  · subst hw
    rw [if_pos rfl]
    have q : List.lookup g [(g, v)] = some v := by simp [List.lookup]
    rw [q]
    exact r
  · rw [if_neg hw]
    have qw : (g == f) = false := by simpa using hw
    have q2 : List.lookup g [(f, v)] = none := by simp [List.lookup, qw]
    rw [q2]
    trivial
section
variable {R : Rx} {X : Cx} {W : WX}
def tMkX (C : Addr) (f : Str) (ta : TA) : L2.St → Hp → XK → Prop := fun σ H Q => ta σ H fun vs H1 => ∃ v, vs = [v] ∧ ∀ d, H1 d = none → Q (.ref C) (some d) (upd H1 d (.xd [(f, v)]))
theorem pmk_x {C fI : Addr} {f y x : Str} {a : Expr} {ta : TA} {p pos : Pos} {k : Nat} (T : XcTxt X.prog X.K X.mg C fI f y) (hm : X.mg x = some (.ref C)) (hr : Room k X.A) (ha : PA X [a] ta) (hg : Gl X x) (hd : (x == ("__debug__" : Str)) = false)
    (he : starEach (a :: []) X.env = (false, eval a X.env) :: starEach [] X.env) (hpl : (backTo pos (starEach [] X.env)).any (·.1) = false := by rfl) :
    PMk X (.Call (.Name x p) [a] [] pos) (tMkX C f ta) := by
  intro pins s σ H Q I h
  refine wpAny_Call_Name_kw (ld_glob I hg hm ?_ hd)
  refine PySem.W.callWith_K (h₀ := X.base) I.ok.mod.kin T.kC (thn (ha.run pos pins s σ H _ I h) fun us s1 hh => ?_) he hpl
  obtain ⟨vs, H1, I1, r1, v, ev, q1⟩ := hh
  subst ev
  refine ⟨I1.kIn, ?_⟩
  cases r1 with
  | cons rv rn =>
    rename_i v' us'
    cases rn
    show wpAny _ _ (call (.ref C) [v']) _ _ _
    have hlim := I1.nolimit
    obtain ⟨mb, b1, b2⟩ := I1.mod.blt
    have hG : s1.heap.Ns mainGlobals X.mg := I1.mod.glob.keeps I1.bk
    have hB : s1.heap.Ns builtinsNs mb := b1.keeps I1.bk
    have hb : mb "super" = some (.type "super") := (b2 "super" (by decide)).trans (by first | rfl | kernel_rfl)
    obtain ⟨hp, g, dr, tk, os⟩ := s1
    refine wpAny_call (xc_made T I1.kIn hlim hG hB hb (by have := hr.dp; omega) fun h' tk' e d M => ?_)
    show MkP X pins σ Q (.ref e) ⟨h', g, dr, tk', os⟩
    obtain ⟨oe, fv, hoe, hc, hd, hdat, h1⟩ := M.obj
    have hns := M.ns
    obtain ⟨G', g1, g2⟩ := restrict h' fun b => decide (b ≠ e)
    have gk : ∀ b, b ≠ e → G'.get? b = h'.get? b := fun b hb => g1 b (decide_eq_true hb)
    have ge : G'.get? e = none := g2 e (by simp)
    have old : ∀ b o, hp.get? b = some o → G'.get? b = some o := fun b o q => (gk b (Nat.ne_of_lt (Nat.lt_of_lt_of_le (Heap.lt_size q) M.new))).trans (M.keep b o q)
    have ob : ObjOk X.prog X.w (upd H1 d (.xd [(f, v)])) G' d (.xd [(f, v)]) :=
      ⟨_, hns.at (fun o q => (gk d M.dne).trans q), fun g => relO_xc rv g⟩
    have J : Inv X pins σ (upd H1 d (.xd [(f, v)])) ⟨G', g, dr, tk', os⟩ := I1.laid (t' := tk') old M.dbig ob
    refine ⟨e, oe, fv, ⟨G', g, dr, tk', os⟩, _, .ref C, some d, rfl, J, fun b o q => ?_, ge, hoe, ⟨hc, hd⟩, hdat, h1, ?_, rfl, I1.bare, raises_own T.exC T.tyC, q1 d (I1.hok.fresh M.dbig)⟩
    · by_cases hb : b = e
      · have q' : G'.get? b = some o := q
        rw [hb, ge] at q'; cases q'
      · exact (gk b hb).symm.trans q
    · rw [upd_ne (Ne.symm M.dne)]
      exact I1.hok.fresh M.new

theorem as_raise (hK : X.K = R.K) (hc : X.calm = true) (tk : Takes X W) {c : Nat} {fI : Addr} {f y x : Str} {a : Expr} {m : DE} {p pos pos2 : Pos} {k : Nat} (T : XcTxt X.prog X.K X.mg (R.xa c) fI f y) (hf : (R.G.excs[c]?).bind (·.field) = some f) (hm : X.mg x = some (.ref (R.xa c)))
    (hr : Room k X.A) (ha : AA R X W [a] (aCons m aNil)) (hg : Gl X x) (hd : (x == ("__debug__" : Str)) = false) (he : starEach (a :: []) X.env = (false, eval a X.env) :: starEach [] X.env) :
    AS R X W (.Raise (some (.Call (.Name x p) [a] [] pos)) none pos2) (sRaise c (aCons m aNil)) := by
  refine (ps_raise hc tk (pmk_x T hm hr ha hg hd he)).imp fun D σ H ⟨μ, env, h, S, hr, p⟩ => ?_
  refine rdA_out S hr p fun avs h1 μ1 H1 vs ev S1 hr1 rvs p => ?_
  match avs, rvs, p with
  | [av], rvs, p =>
    obtain ⟨v, r, e1, rv, e2⟩ := rvs
    have e2 : r = [] := e2
    subst e1 e2
    refine ⟨v, rfl, fun d hd => ?_⟩
    have e3 : Ev μ1 H1 μ1 (upd H1 d (.xd [(f, v)])) := Ev.new hd
    exact p μ1 _ σ _ _ e3 (S1.ev hr1.cells e3) (hr1.new hd) ⟨rfl, d, f, v, rfl, hf, upd_same, hr1.notin hd, rv.ev hr1.cells e3⟩
  | [], _, p => exact p.elim
  | _ :: _ :: _, _, p => exact p.elim
end
end Tp
end
section
set_option Elab.async false
set_option linter.all false
set_option maxRecDepth 100000
set_option maxHeartbeats 1000000

namespace Tp
open PySem PySem.Spec PyProof.Rows L2

structure CtxE (c : Calls) (k : Nat) (cm lm : Bool) (N : List Str) (sc : Scope) (R : Rx) (X : Cx) (W : WX) : Prop where
  hK : X.K = R.K
  hB : X.base = R.base
  facts : Facts R X.mg
  hN : X.N = N
  nd : N.Nodup
  hsc : X.env.scope = sc
  kind : sc.kind = .function
  units : X.A.units + 65 < cLine
  calm : cm = true → X.calm = true
  ex : cm = true → R.ex = none
  pin : ExPin R X
  room : cm = true → Room k X.A
  calls : cm = true → CallsOk R X c k
  tk : Takes X W
  lam : lm = true → LamAt R X
theorem Facts.wh {R : Rx} {mg : Str → Option Value} (F : Facts R mg) (hid : List Addr) : Facts (R.wh hid) mg :=
  ⟨fun x g h => F.name x g h, F.bnone, F.fkeep, F.ocls1, F.ocls2, F.xat, F.xfld, F.xis, F.xval, F.cat, F.cfld, F.cmeth, F.cprop, F.cis, F.cty, F.tyc⟩
theorem Facts.wx {R : Rx} {mg : Str → Option Value} (F : Facts R mg) (q : Option (Addr × Value × Option Addr)) : Facts (R.wx q) mg :=
  ⟨fun x g h => F.name x g h, F.bnone, F.fkeep, F.ocls1, F.ocls2, F.xat, F.xfld, F.xis, F.xval, F.cat, F.cfld, F.cmeth, F.cprop, F.cis, F.cty, F.tyc⟩
theorem CallsOk.blk {R : Rx} {X : Cx} {c : Calls} {k : Nat} (C : CallsOk R X c k) (hid : List Addr) (s : Shared) (H : Hp) (scope : Scope) (cenv : Env) (fp : List Addr) : CallsOk (R.wh hid) (X.blk s H scope cenv fp) c k :=
  ⟨fun i fi h => C.fn i fi h, fun i fi avs h q => C.len i fi avs h q, fun i avs h q => C.none i avs h q, fun i cs hid2 A outer s H f ws us vs avs μ h Q E => C.clo i cs hid2 A outer s H f ws us vs avs μ h Q E⟩
section
variable {c : Calls} {k : Nat} {cm lm : Bool} {N : List Str} {sc : Scope} {R : Rx} {X : Cx} {W : WX}
theorem takes0 {X : Cx} : Takes X W0 := fun u s' ⟨_, _, _, _, _, _, _, _, _, _, _, _, _, _, _, _, w⟩ => w.elim
theorem CtxE.nlm (C : CtxE c k cm lm N sc R X W) : CtxE c k cm false N sc R X W := ⟨C.hK, C.hB, C.facts, C.hN, C.nd, C.hsc, C.kind, C.units, C.calm, C.ex, C.pin, C.room, C.calls, C.tk, fun h => by cases h⟩
theorem CtxE.blk (C : CtxE c k true lm N sc R X W) {scope : Scope} (hk : scope.kind = .function) (s : Shared) (H : Hp) (Cc : Addr) (cl : List (Str × Addr)) (fp : List Addr) (hid : List Addr) :
    CtxE c k true false N (relS scope sc) (R.wh hid) (X.blk s H scope (compEnvC scope cl Cc X.env) fp) W0 := by
  refine ⟨C.hK, C.hB, C.facts.wh hid, C.hN, C.nd, ?_, hk, C.units, C.calm, C.ex, ?_, C.room, fun h => (C.calls h).blk hid s H scope _ fp, takes0, fun h => by cases h⟩
  · show relabel scope X.env = _
    unfold relabel relS
    rw [C.hsc] <;> first | rfl | (have := C.hsc; subst this; rfl)
  · intro a cls d h
    rw [show R.ex = none from C.ex rfl] at h
    cases h

theorem ae_attrX (C : CtxE c k cm lm N sc R X W) {e : Expr} {m : DE} {f : Str} {pos : Pos} (he : AE R X W e m) (hb : noSuper e = true) : AE R X W (.Attribute e f pos) (eAttrX R.G f m) := by
  refine ⟨fun pins s σ H Q I ⟨μ, env, h, S, hr, p⟩ => ?_⟩
  refine attr_of (attrBase hb) (thn (he.run pins s σ H (fun v H1 => ∃ μ1 h1 av, HRel R μ1 h1 H1 ∧ Rep R μ1 H1 av v ∧ Post R W σ μ1 H1 (attrX R.G f av h1) Q) I (rdE_bind S hr p fun av h1 μ1 H1 v ev S1 hr1 rv p => ⟨μ1, h1, av, hr1, rv, p⟩)) fun u s1 hh => ?_)
  obtain ⟨x, H1, I1, rx, μ1, h1, av, hr1, rv, p1⟩ := hh
  cases av with
  | exc kx y =>
    obtain ⟨a, d, g, w, e1, e2, e3, e4, e5, rw⟩ := rv
    subst e2
    obtain rfl : u = Value.ref a := rx
    cases eg : R.G.excs[kx]? with
    | none => rw [eg] at e3; cases e3
    | some ei =>
      rw [eg] at e3
      have e3 : ei.field = some g := e3
      have p1 : Post R W σ μ1 H1 ((match R.G.excs[kx]? with
        | some e => if e.field = some f then ret y else fail
        | none => fail) h1) Q := p1
      rw [eg] at p1
      simp only at p1
      by_cases hf : ei.field = some f
      · rw [if_pos hf] at p1
        rw [e3] at hf
        cases hf
        obtain ⟨oe, hp, hz, vs, hd⟩ := C.pin _ _ _ e1
        obtain ⟨ha, _⟩ := I1.pin (a, oe) (List.mem_append_left _ hp)
        have hx : ObjOk X.prog X.w H1 s1.heap d (.xd [(f, w)]) := I1.hok d _ e4
        obtain ⟨mA, hns, hrl⟩ := hx
        obtain ⟨od, ho, hl⟩ := lookIn_ns hns
        have l : List.lookup f [(f, w)] = some w := by simp [List.lookup]
        obtain ⟨u, hu, ru⟩ := RelO.some_of (v := w) (o := mA f) (by rw [← l]; exact hrl f)
        have J : PySem.W.InstAt s1.heap a oe (R.xa kx) (some od) := ⟨ha, hz.1, by unfold PySem.W.notCls; rw [hd] <;> rfl, by rw [hz.2]; exact ho⟩
        obtain ⟨T, x2, x3, x4⟩ := C.facts.xat kx ei eg
        have hno := C.facts.xfld kx ei f eg e3
        have kin : R.K.In s1.heap := C.hK ▸ I1.kIn
        exact HandSPX.exc_get kin J T.ga T.gg T.exC (PySem.W.findObj_own T.hdC hno rfl (by rw [hl, hu])) (handed_of ru) ⟨w, H1, I1.tok _, ru, p1 μ1 H1 w (Ev.refl _ _) hr1 rw⟩
      · rw [if_neg hf] at p1
        exact p1.elim
  | _ => exact p1.elim

theorem at_if {t a b : Expr} {m m1 m2 : DT} {pos : Pos} (hc : AT R X W t m) (ha : AT R X W a m1) (hb : AT R X W b m2) : AT R X W (.IfExp t a b pos) (tIf m m1 m2) := by
  refine ⟨fun pins s σ H Q I ⟨μ, env, h, S, hr, p⟩ => ?_⟩
  have hC : rdT R W m σ H (fun d H1 => if d = true then rdT R W m1 σ H1 Q else rdT R W m2 σ H1 Q) := by
    refine rdT_bindT S hr (show PostT R W σ μ H (bind (m env) (fun c => if c then m1 env else m2 env) h) Q from p) fun d h1 μ1 H1 ev S1 hr1 p => ?_
    cases d with
    | true => exact ⟨μ1, env, h1, S1, hr1, p⟩
    | false => exact ⟨μ1, env, h1, S1, hr1, p⟩
  have e1 : isTrue (.IfExp t a b pos) X.env (eval (.IfExp t a b pos) X.env) = (do if ← isTrue t X.env (eval t X.env) then isTrue a X.env (eval a X.env) else isTrue b X.env (eval b X.env)) := by
    first | rfl | simp only [isTrue]
  rw [e1]
  refine wpAny_bind (thn (hc.run pins s σ H _ I hC) fun d s1 ⟨H1, I1, q1⟩ => ?_)
  cases d with
  | true => exact ha.run pins s1 σ H1 Q I1 (by simpa using q1)
  | false => exact hb.run pins s1 σ H1 Q I1 (by simpa using q1)
theorem both (C : CtxE c k cm lm N sc R X W) {e : Expr} {m : DE} (ha : AE R X W e m) (he : ∀ whole, isTrue e X.env whole = (do let v ← whole; standAt e.pos; holding [v] (truthy v))) : AE R X W e (valE m).1 ∧ AT R X W e (valE m).2 := ⟨ha, at_truth C.hK ha he⟩
theorem ae_const_ok {q : Const} {av : AV} {i : Nat} {pos : Pos} (h : conV q = some av) : AE R X W (.Constant q i pos) (eVal av) := by
  cases q <;> first | (simp [conV] at h; done) | skip
  all_goals
    simp only [conV, Option.some.injEq] at h
    subst h
  · exact ae_const pe_non fun μ H => rfl
  · exact ae_const pe_bl fun μ H => rfl
  · exact ae_const pe_int fun μ H => rfl
  · exact ae_const pe_str fun μ H => by
      show _ = _
      first | rfl | simp

theorem globG (C : CtxE c k cm lm N sc R X W) {x : Str} (h : globalK (sc.names.lookup x) = true) : Gl X x := globalK_ok (by rw [C.hsc]; exact h)
theorem lamLast_ok : ∀ {args : List Expr} {init : List Expr} {a : Arguments} {b : Expr} {s : Scope} {p : Pos}, lamLast args = some (init, a, b, s, p) → args = init ++ [.Lambda a b s p]
  | [], _, _, _, _, _, h => by cases h
  | [e], init, a, b, s, p, h => by
    cases e <;> first | (simp [lamLast] at h; done) | skip
    simp only [lamLast, Option.some.injEq, Prod.mk.injEq] at h
    obtain ⟨rfl, rfl, rfl, rfl, rfl⟩ := h
    rfl
  | e :: e2 :: r, init, a, b, s, p, h => by
    have h' : (lamLast (e2 :: r)).map (fun q => (e :: q.1, q.2)) = some (init, a, b, s, p) := by
      cases e <;> first | exact h | simpa [lamLast] using h
    cases e3 : lamLast (e2 :: r) with
    | none => rw [e3] at h'; cases h'
    | some q =>
      obtain ⟨i2, a2, b2, s2, p2⟩ := q
      rw [e3] at h'
      cases h'
      rw [lamLast_ok e3] <;> rfl
theorem plain_app {a b : List Expr} (h : plainArgs (a ++ b) = true) : plainArgs a = true := by
  unfold plainArgs at h ⊢
  simp only [List.any_append, Bool.not_or, Bool.and_eq_true] at h
  exact h.1
theorem notIsStar {es : List Expr} (h : plainArgs es = true) : ∀ e ∈ es, isStar e = false := fun e he => by
  unfold plainArgs at h
  rw [Bool.not_eq_true', List.any_eq_false] at h
  simpa using h e he
section
variable {f : Expr → DE} (C : CtxE c k cm lm N sc R X W) (hf : ∀ e, AE R X W e (f e))
include C hf
theorem args_ok {es : List Expr} : AA R X W es (evArgs f es) := aa_args C.hK (fun e _ _ => hf e) fun e p _ => hf e
theorem snd_callF (hcm : cm = true) {x : Str} {i : Nat} (hn : R.G.names.lookup x = some (.fn i)) (hg : Gl X x) (hd : notDebug x = true) {args : List Expr} {kws : List Keyword} {p0 pos : Pos} : AE R X W (.Call (.Name x p0) args kws pos) (evCallF R.G N c lm f sc i args kws) := by
  unfold evCallF
  by_cases hp : plainArgs args = true
  · rw [if_pos hp]
    cases hl : lamLast args with
    | some q =>
      obtain ⟨init, a, b, s, lp⟩ := q
      simp only
      by_cases hc : (lm && kws.isEmpty && (lamOf a b s).ok && lamIn? (lamOf a b s) sc) = true
      · rw [if_pos hc]
        simp only [Bool.and_eq_true, List.isEmpty_iff] at hc
        obtain ⟨⟨⟨h1, rfl⟩, h3⟩, h4⟩ := hc
        cases hx : ixs N (lamOf a b s).fr with
        | none => exact ae_fail
        | some js =>
          have hargs := lamLast_ok hl
          subst hargs
          exact ae_callL C.facts C.hK C.hB (C.calls hcm) (C.room hcm) C.tk (C.lam h1) (by rw [C.hN]; exact C.nd) hn hg hd h3 (by rw [C.hsc]; exact h4) (by rw [C.hN]; exact hx) (plain_app hp) fun e _ _ => hf e
      · rw [if_neg hc]
        exact ae_fail
    | none =>
      simp only
      by_cases hk : kws.isEmpty = true
      · rw [if_pos hk]
        rw [List.isEmpty_iff] at hk
        subst hk
        exact ae_call C.facts C.hK (C.calls hcm) (C.room hcm) C.tk hn hg hd hp (fun e => by subst e; rfl) (args_ok C hf)
      · rw [if_neg hk]
        cases hks : kwNames kws with
        | none => exact ae_fail
        | some ks =>
          cases hfi : R.G.fns[i]? with
          | none => exact ae_fail
          | some fi => exact ae_callK C.facts C.hK (C.calls hcm) (C.room hcm) C.tk hfi hn hg hd hp (fun e => by subst e; rfl) hks (args_ok C hf) (ak_kws fun q _ => hf q.value)
  · rw [if_neg hp]
    exact ae_fail
theorem snd_callN {x : Str} {args : List Expr} {kws : List Keyword} {p0 pos : Pos} : AE R X W (.Call (.Name x p0) args kws pos) (evCallN R.G N c cm lm f sc x args kws) := by
  unfold evCallN
  by_cases hd : notDebug x = true
  · rw [if_pos hd]
    by_cases hl : localK (sc.names.lookup x) = true
    · rw [if_pos hl]
      by_cases hc : (cm && kws.isEmpty && plainArgs args) = true
      · rw [if_pos hc]
        simp only [Bool.and_eq_true, List.isEmpty_iff] at hc
        obtain ⟨⟨hcm, rfl⟩, hp⟩ := hc
        cases hx : ixOf N x with
        | none => exact ae_fail
        | some i => exact ae_callV C.facts C.hK (C.calls hcm) (C.room hcm) C.tk (by rw [C.hN]; exact ixOf_ok hx) (localK_ok (by rw [C.hsc]; exact hl)) hd hp (fun e => by subst e; rfl) (args_ok C hf)
      · rw [if_neg hc]
        exact ae_fail
    · rw [if_neg hl]
      by_cases hg : globalK (sc.names.lookup x) = true
      · rw [if_pos hg]
        have hG := globG C hg
        cases hn : R.G.names.lookup x with
        | some g =>
          cases g with
          | fn i =>
            simp only
            by_cases hcm : cm = true
            · rw [if_pos hcm]
              exact snd_callF C hf hcm hn hG hd
            · rw [if_neg hcm]
              exact ae_fail
          | cls i => exact ae_fail
          | xcls i => exact ae_fail
          | con v => exact ae_fail
        | none =>
          cases hb : bfOf.lookup x with
          | none => exact ae_fail
          | some b =>
            simp only
            by_cases hc : (kws.isEmpty && plainArgs args && !args.isEmpty && (cm || !b.calm)) = true
            · rw [if_pos hc]
              simp only [Bool.and_eq_true, List.isEmpty_iff, Bool.not_eq_true', Bool.or_eq_true] at hc
              obtain ⟨⟨⟨rfl, hp⟩, hne⟩, hcc⟩ := hc
              exact ae_builtin C.facts C.hK C.pin hb hn (fun hbc => by
                rcases hcc with h | h
                · exact C.calm h
                · rw [hbc] at h; cases h) hG hd (fun e => by subst e; cases hne) hp (args_ok C hf)
            · rw [if_neg hc]
              exact ae_fail
      · rw [if_neg hg]
        exact ae_fail
  · rw [if_neg hd]
    exact ae_fail
theorem few_ok {e : Expr} {r : List Expr} {cpos : Pos} {env : Env} (hp : plainArgs (e :: r) = true) (hl : (e :: r).length + ([] : List Keyword).length < 25) : ((backTo cpos (starEach (e :: r) env)).all (fun x => !x.1) && (backToKw cpos (keywordEach [] env)).all (fun x => x.1.isSome)
      && decide ((e :: r).length + ([] : List Keyword).length + (if ([] : List Keyword).isEmpty then 0 else 1) < 30)) = true := by
  have h1 : ((backTo cpos (starEach (e :: r) env)).all fun x => !x.1) = true := by
    have := starEach_any (env := env) hp
    rw [← backTo_any (pos := cpos)] at this
    rw [List.all_eq_true]
    rw [List.any_eq_false] at this
    intro x hx
    have := this x hx
    simpa using this
  rw [h1]
  have h2 : ((backToKw cpos (keywordEach [] env)).all fun x => x.1.isSome) = true := by rfl
  rw [h2]
  simp only [Bool.true_and, decide_eq_true_eq, List.isEmpty_nil, if_true]
  omega
theorem snd_meth {o : Expr} {m : Str} {args : List Expr} {kws : List Keyword} {ap pos : Pos} (hline : (ap.endLine == pos.line) = true) : AE R X W (.Call (.Attribute o m ap) args kws pos) (evMeth f o m args kws) := by
  unfold evMeth
  by_cases h0 : (plainArgs args && noSuper o && decide (args.length + kws.length < 25)) = true
  · rw [if_pos h0]
    simp only [Bool.and_eq_true, decide_eq_true_eq] at h0
    obtain ⟨⟨hp, hns⟩, hlen⟩ := h0
    by_cases hk : kws.isEmpty = true
    · rw [if_pos hk]
      rw [List.isEmpty_iff] at hk
      subst hk
      cases hm : mfOf.lookup m with
      | none => exact ae_fail
      | some mf =>
        simp only
        cases args with
        | nil => exact ae_fail
        | cons a r =>
          have hl : (fun (e : Expr) (r2 : List Expr) (z : a :: r = e :: r2) => few_ok C hf (e := e) (r := r2) (cpos := pos) (env := X.env) (by rw [← z]; exact hp) (by rw [← z]; exact hlen)) = (fun (e : Expr) (r2 : List Expr) (z : a :: r = e :: r2) => few_ok C hf (e := e) (r := r2) (cpos := pos) (env := X.env) (by rw [← z]; exact hp) (by rw [← z]; exact hlen)) := rfl
          have key : ∀ {op : AV → List AV → M AV} {name : Str} {id : String}, SndM R X id op → Slot "list" name id → typeOf (.builtin id) = pure (.type "method_descriptor") → AE R X W (.Call (.Attribute o name ap) (a :: r) [] pos) (fun env => bind (f o env) fun v => bind (lstOf v) fun _ => bind (evArgs f (a :: r) env) fun xs => op v xs) := fun {op name id} s slot ty =>
            ae_meth C.hK s slot ty (hf o) (args_ok C hf) (by intro z; cases z) (attrBase hns) (fun e r2 z => few_ok C hf (by rw [← z]; exact hp) (by rw [← z]; exact hlen)) hline (fun e r2 z => hs_of (by rw [← z]; exact hp)) (fun e r2 z => hpl_of (by rw [← z]; exact hp))
          have hmem := PySem.mem_of_lookup hm
          unfold mfOf at hmem
          simp only [List.mem_cons, Prod.mk.injEq, List.not_mem_nil, or_false] at hmem
          rcases hmem with ⟨rfl, rfl⟩ | ⟨rfl, rfl⟩ | ⟨rfl, rfl⟩ | ⟨rfl, rfl⟩
          · exact key sndm_append F.slot_list_append F.type_list_append
          · exact key sndm_extend F.slot_list_extend F.type_list_extend
          · exact key (sndm_count C.hK) F.slot_list_count F.type_list_count
          · exact key (sndm_index C.hK C.units) F.slot_list_index F.type_list_index
    · rw [if_neg hk]
      exact ae_fail
  · rw [if_neg h0]
    exact ae_fail
theorem snd_call {fe : Expr} {args : List Expr} {kws : List Keyword} {pos : Pos} : AE R X W (.Call fe args kws pos) (evCall R.G N c cm lm f sc fe args kws pos) := by
  cases fe <;> first | exact ae_fail | skip
  · rename_i o m ap
    unfold evCall
    by_cases hl : (ap.endLine == pos.line) = true
    · simp only [hl, if_true]
      exact snd_meth C hf hl
    · simp only [hl]
      exact ae_fail
  · exact snd_callN C hf

theorem snd_iter {tg it : Expr} : AI R X W tg it (evIter R.G f sc tg it) := by
  have base : AI R X W tg it (iVal (f it)) := ai_val C.hK (hf it)
  unfold evIter
  split
  · rename_i x p args p2
    split
    · rename_i hc
      simp only [Bool.and_eq_true, Option.isNone_iff_eq_none] at hc
      obtain ⟨⟨hg, hn⟩, hp⟩ := hc
      have hG := globG C hg
      split
      · rename_i hx
        have hx : x = "range" := by simpa using hx
        subst hx
        split
        · exact ai_range1 C.facts hn hG (notIsStar hp _ (by simp)) (hf _)
        · exact ai_range2 C.facts hn hG (notIsStar hp _ (by simp)) (notIsStar hp _ (by simp)) (hf _) (hf _)
        · exact ai_range3 C.facts hn hG (notIsStar hp _ (by simp)) (notIsStar hp _ (by simp)) (notIsStar hp _ (by simp)) (hf _) (hf _) (hf _)
        · exact ai_fail
      · split
        · rename_i hx
          have hx : x = "enumerate" := by simpa using hx
          subst hx
          split
          · split
            · rename_i ht
              exact ai_enum C.hK C.facts hn hG (notIsStar hp _ (by simp)) ht (hf _)
            · exact ai_fail
          · exact ai_fail
        · split
          · rename_i hx
            have hx : x = "zip" := by simpa using hx
            subst hx
            split
            · split
              · rename_i ht
                exact ai_zip C.hK C.facts hn hG (notIsStar hp _ (by simp)) (notIsStar hp _ (by simp)) ht (hf _) (hf _)
              · exact ai_fail
            · exact ai_fail
          · exact base
    · exact base
  · split
    · exact base
    · exact ai_fail
theorem snd_tgt {own : List Nat} {blk : Bool} (hfn : blk = false → ∀ x, X.fn x = true) : ∀ (n : Nat) (tg : Expr), AG R X own tg (evTgt R.G N cm f sc own blk n tg)
  | 0, tg => ag_fail
  | n + 1, tg => by
    cases tg <;> first | exact ag_fail | skip
    · rename_i o a p
      show AG R X own _ (if (blk || !noSuper o) = true then gFail else gFld R.G a (f o))
      split
      · exact ag_fail
      · exact ag_fld C.hK C.facts (hf o)
    · rename_i o i p
      cases blk with
      | true => exact ag_fail
      | false =>
        cases i <;> first | exact ag_fail | exact ag_sub (hf o) (hf _) rfl
    · rename_i x p
      show AG R X own _ (if (sc.names.lookup x == some .local || (!blk && sc.names.lookup x == some .cell)) = true then (match ixOf N x with
        | some i => if own.contains i then Tp.gName i else gFail
        | none => gFail) else gFail)
      split
      · rename_i hc
        split
        · rename_i i hi
          split
          · rename_i ho
            simp only [Bool.or_eq_true, beq_iff_eq, Bool.and_eq_true, Bool.not_eq_true'] at hc
            refine ag_name (by rw [C.hN]; exact C.nd) (by rw [C.hN]; exact ixOf_ok hi) ?_ ?_ (by simpa using ho)
            · show _ ∨ _
              rw [C.hsc]
              rcases hc with h | ⟨_, h⟩
              · exact .inl h
              · exact .inr h
            · rw [C.hsc]
              rcases hc with h | ⟨hb, h⟩
              · exact .inr h
              · exact .inl (hfn hb x)
          · exact ag_fail
        · exact ag_fail
      · exact ag_fail
    · rename_i es q p
      show AG R X own _ (if (cm && plainArgs es) = true then gTup (evTgts (evTgt R.G N cm f sc own blk n) es) else gFail)
      split
      · rename_i hc
        simp only [Bool.and_eq_true] at hc
        have hl : ∀ (g : Expr → DG) (es : List Expr), (evTgts g es).length = es.length := fun g es => by
          induction es with
          | nil => rfl
          | cons e r ih => show (evTgts g r).length + 1 = r.length + 1; rw [ih]
        exact ag_tup C.hK (C.calm hc.1) (hl _ _) hc.2 (ag_all es (fun e _ _ => snd_tgt hfn n e) hc.2)
      · exact ag_fail
end
end
end Tp
end
section
set_option Elab.async false
set_option linter.all false
set_option maxRecDepth 100000
set_option maxHeartbeats 1000000

namespace Tp
open PySem PySem.Spec PyProof.Rows L2
section
variable {c : Calls} {k : Nat} {cm : Bool} {N : List Str}
theorem lastNo {op op' : CmpOp} {b d : Expr} (h : noSet d = true) : lastMarks [op, op'] [b, d] = false := by
  show lastMarks [op'] [d] = false
  exact behindNo h
theorem blkOk_of {sc scope : Scope} (h : blkB sc scope = true) : BlkOk N sc scope (ownP N scope) := by
  unfold blkB at h
  simp only [Bool.and_eq_true, beq_iff_eq, List.all_eq_true] at h
  obtain ⟨⟨h1, h2⟩, h3⟩ := h
  refine ⟨h1, h2, fun p hp => ?_, fun y hy e => ?_, fun y hy e => ?_⟩
  · unfold ownP at hp
    obtain ⟨q, _, hq⟩ := List.mem_filterMap.mp hp
    split at hq
    · cases hi : ixOf N q.1 with
      | none => rw [hi] at hq; cases hq
      | some i =>
        rw [hi] at hq
        cases hq
        exact ixOf_ok hi
    · cases hq
  · have := h3 y hy
    rw [e] at this
    simpa using this
  · cases hi : ixOf N y.1 with
    | none => exact .inr (ixOf_none hi)
    | some i =>
      left
      rw [List.mem_map]
      refine ⟨(y.1, i), ?_, rfl⟩
      unfold ownP
      refine List.mem_filterMap.mpr ⟨y, hy, ?_⟩
      rcases e with e | e <;> simp [e, hi]

theorem compOk {lm : Bool} {sc : Scope} {R : Rx} {X : Cx} {W : WX} (n : Nat) (C : CtxE c k true lm N sc R X W)
    (ih : ∀ {lm : Bool} {sc : Scope} {R : Rx} {X : Cx} {W : WX}, CtxE c k true lm N sc R X W → ∀ e, AE R X W e (evE R.G N c true n lm sc e).1 ∧ AT R X W e (evE R.G N c true n lm sc e).2)
    {elt tg it : Expr} {ifs : List Expr} {scope : Scope} (h : blkB sc scope = true) (hns : noSet it = true) :
    CompOk R X W elt tg it ifs scope (ownP N scope) (evIter R.G (fun a => (evE R.G N c true n lm sc a).1) sc tg it) (evTgt R.G N true (fun a => (evE R.G N c true n false (relS scope sc) a).1) (relS scope sc) (ownOf N scope) true 8 tg)
      (evTests (fun a => (evE R.G N c true n false (relS scope sc) a).2) ifs) (evE R.G N c true n false (relS scope sc) elt).1 := by
  have hk : scope.kind = .function := (blkOk_of (N := N) h).kind
  refine ⟨C.calm rfl, by rw [C.hN]; exact C.nd, snd_iter C (fun e => (ih C e).1), by rw [C.hN, C.hsc]; exact blkOk_of h, fun s H Cc cl fp hid => ?_, fun s H Cc cl fp => atsh (fun e _ hid => (ih (C.blk hk s H Cc cl fp hid) e).2), fun s H Cc cl fp hid => (ih (C.blk hk s H Cc cl fp hid) elt).1, foldedNo hns⟩
  exact snd_tgt (C.blk hk s H Cc cl fp hid) (fun e => (ih (C.blk hk s H Cc cl fp hid) e).1) (fun h => by cases h) 8 tg
theorem sndE : ∀ (n : Nat) {lm : Bool} {sc : Scope} {R : Rx} {X : Cx} {W : WX}, CtxE c k cm lm N sc R X W → ∀ e, AE R X W e (evE R.G N c cm n lm sc e).1 ∧ AT R X W e (evE R.G N c cm n lm sc e).2
  | 0, _, _, _, _, _, _, _ => ⟨ae_fail, at_fail⟩
  | n + 1, lm, sc, R, X, W, C, e => by
    have ih : ∀ {lm : Bool} {sc : Scope} {R : Rx} {X : Cx} {W : WX}, CtxE c k cm lm N sc R X W → ∀ e, AE R X W e (evE R.G N c cm n lm sc e).1 ∧ AT R X W e (evE R.G N c cm n lm sc e).2 := fun {lm sc R X W} C e => sndE n C e
    have iE : ∀ e, AE R X W e (evE R.G N c cm n lm sc e).1 := fun e => (ih C e).1
    have iT : ∀ e, AT R X W e (evE R.G N c cm n lm sc e).2 := fun e => (ih C e).2
    cases e with
    | Constant q i pos =>
      show AE R X W _ (match conV q with
        | some v => valE (eVal v)
        | none => etFail).1 ∧ AT R X W _ (match conV q with
        | some v => valE (eVal v)
        | none => etFail).2
      cases hq : conV q with
      | none => exact ⟨ae_fail, at_fail⟩
      | some av => exact both C (ae_const_ok hq) fun _ => by first | rfl | simp only [isTrue]
    | Name x pos => exact both C (ae_name C.facts C.hN C.hsc) fun _ => by first | rfl | simp only [isTrue]
    | BoolOp op es pos =>
      have get : ∀ {α : Type} (g : Expr → α) (P : Expr → α → Prop), (∀ e, P e (g e)) → ∀ (i : Nat) (e : Expr) (t : α), es[i]? = some e → (es.map g)[i]? = some t → P e t := fun {α} g P hP i e t h1 h2 => by
        rw [List.getElem?_map, h1] at h2
        cases h2
        exact hP e
      cases op with
      | And =>
        show AE R X W _ (if es.isEmpty then etFail else (eAnd (es.map fun a => (evE R.G N c cm n lm sc a).1), tAnd (es.map fun a => (evE R.G N c cm n lm sc a).2))).1 ∧ AT R X W _ (if es.isEmpty then etFail else (eAnd (es.map fun a => (evE R.G N c cm n lm sc a).1), tAnd (es.map fun a => (evE R.G N c cm n lm sc a).2))).2
        by_cases he : es.isEmpty = true
        · rw [if_pos he]; exact ⟨ae_fail, at_fail⟩
        · rw [if_neg he]
          have hne : es ≠ [] := fun z => he (by rw [z]; rfl)
          exact ⟨ae_and C.hK es _ (by rw [List.length_map]) hne (get _ (fun e t => AE R X W e t) iE) pos, (aw_and es _ (by rw [List.length_map]) hne (get _ (fun e t => AT R X W e t) iT) pos).pt⟩
      | Or =>
        show AE R X W _ (if es.isEmpty then etFail else (eOr (es.map fun a => (evE R.G N c cm n lm sc a).1), tOr (es.map fun a => (evE R.G N c cm n lm sc a).2))).1 ∧ AT R X W _ (if es.isEmpty then etFail else (eOr (es.map fun a => (evE R.G N c cm n lm sc a).1), tOr (es.map fun a => (evE R.G N c cm n lm sc a).2))).2
        by_cases he : es.isEmpty = true
        · rw [if_pos he]; exact ⟨ae_fail, at_fail⟩
        · rw [if_neg he]
          have hne : es ≠ [] := fun z => he (by rw [z]; rfl)
          exact ⟨ae_or C.hK es _ (by rw [List.length_map]) hne (get _ (fun e t => AE R X W e t) iE) pos, (aw_or es _ (by rw [List.length_map]) hne (get _ (fun e t => AT R X W e t) iT) pos).pt⟩
    | BinOp a op b pos => exact both C (ae_bin (snd_bin C.hK op) (iE a) (iE b)) fun _ => by first | rfl | simp only [isTrue]
    | UnaryOp op a pos =>
      cases op with
      | Not => exact ⟨ae_not C.hK (iE a), at_not (iT a)⟩
      | USub => exact both C (ae_neg (iE a)) fun _ => by first | rfl | simp only [isTrue]
      | UAdd => exact ⟨ae_fail, at_fail⟩
      | Invert => exact ⟨ae_fail, at_fail⟩
    | IfExp t a b pos => exact ⟨ae_if (iT t) (iE a) (iE b), at_if (iT t) (iT a) (iT b)⟩
    | Compare a ops bs pos =>
      match ops, bs with
      | [op], [b] =>
        show AE R X W _ (if noSet b then (eCmp op (evE R.G N c cm n lm sc a).1 (evE R.G N c cm n lm sc b).1, tB (eCmp op (evE R.G N c cm n lm sc a).1 (evE R.G N c cm n lm sc b).1)) else etFail).1 ∧
          AT R X W _ (if noSet b then (eCmp op (evE R.G N c cm n lm sc a).1 (evE R.G N c cm n lm sc b).1, tB (eCmp op (evE R.G N c cm n lm sc a).1 (evE R.G N c cm n lm sc b).1)) else etFail).2
        by_cases hb : noSet b = true
        · rw [if_pos hb]
          exact ⟨ae_cmp (snd_cmp C.hK C.units op) (iE a) (iE b) (behindNo hb), at_cmp (snd_cmp C.hK C.units op) (iE a) (iE b) (behindNo hb)⟩
        · rw [if_neg hb]; exact ⟨ae_fail, at_fail⟩
      | [op, op'], [b, d] =>
        show AE R X W _ (if noSet d then (eChain op op' (evE R.G N c cm n lm sc a).1 (evE R.G N c cm n lm sc b).1 (evE R.G N c cm n lm sc d).1, tB (eChain op op' (evE R.G N c cm n lm sc a).1 (evE R.G N c cm n lm sc b).1 (evE R.G N c cm n lm sc d).1)) else etFail).1 ∧
          AT R X W _ (if noSet d then (eChain op op' (evE R.G N c cm n lm sc a).1 (evE R.G N c cm n lm sc b).1 (evE R.G N c cm n lm sc d).1, tB (eChain op op' (evE R.G N c cm n lm sc a).1 (evE R.G N c cm n lm sc b).1 (evE R.G N c cm n lm sc d).1)) else etFail).2
        by_cases hb : noSet d = true
        · rw [if_pos hb]
          exact ⟨ae_chain (snd_cmp C.hK C.units op) (snd_cmp C.hK C.units op') (iE a) (iE b) (iE d) (lastNo hb), at_chain (snd_cmp C.hK C.units op) (snd_cmp C.hK C.units op') (iE a) (iE b) (iE d) (lastNo hb)⟩
        · rw [if_neg hb]; exact ⟨ae_fail, at_fail⟩
      | [], _ => exact ⟨ae_fail, at_fail⟩
      | [_], [] => exact ⟨ae_fail, at_fail⟩
      | [_], _ :: _ :: _ => exact ⟨ae_fail, at_fail⟩
      | [_, _], [] => exact ⟨ae_fail, at_fail⟩
      | [_, _], [_] => exact ⟨ae_fail, at_fail⟩
      | [_, _], _ :: _ :: _ :: _ => exact ⟨ae_fail, at_fail⟩
      | _ :: _ :: _ :: _, _ => exact ⟨ae_fail, at_fail⟩
    | Tuple es q pos => exact both C (ae_tup (args_ok C iE)) fun _ => by first | rfl | simp only [isTrue]
    | List es pos =>
      refine both C ?_ fun _ => by first | rfl | simp only [isTrue]
      split
      · exact ae_new (args_ok C iE)
      · exact ae_lst (args_ok C iE)
    | Subscript o i pos =>
      refine both C ?_ fun _ => by first | rfl | simp only [isTrue]
      have part : ∀ (q : Option Expr), AP' R X W q (evPart (fun a => (evE R.G N c cm n lm sc a).1) q) := fun q => by
        cases q with
        | none => exact ap_no
        | some e => exact ap_at (iE e)
      cases i <;> first | exact ae_ix C.hK (iE o) (iE _) rfl | skip
      rename_i lo hi st p
      cases st with
      | none => exact ae_sl C.hK (iE o) (part lo) (part hi)
      | some e => exact ae_fail
    | Call fe args kws pos => exact both C (snd_call C iE) fun _ => by first | rfl | simp only [isTrue]
    | Attribute o f pos =>
      refine both C ?_ fun _ => by first | rfl | simp only [isTrue]
      split
      · rename_i h
        exact ae_attrX C (iE o) h
      · exact ae_fail
    | ListComp elt gens scope pos =>
      match gens with
      | [⟨tg, it, ifs, ia⟩] =>
        refine both C ?_ fun _ => by first | rfl | simp only [isTrue]
        split
        · rename_i h
          simp only [Bool.and_eq_true, decide_eq_true_eq] at h
          obtain ⟨h1, h2, h3, h4⟩ := h
          subst h1 h4
          exact ae_comp (compOk n C ih h2 h3)
        · exact ae_fail
      | [] => exact ⟨ae_fail, at_fail⟩
      | ⟨_, _, _, _⟩ :: _ :: _ => exact ⟨ae_fail, at_fail⟩
    | _ => exact ⟨ae_fail, at_fail⟩
end
end Tp
end
section
set_option Elab.async false
set_option linter.all false
set_option maxRecDepth 100000
set_option maxHeartbeats 1000000

namespace Tp
open PySem PySem.Spec PyProof.Rows L2

structure CtxS (c : Calls) (k : Nat) (cm lm : Bool) (N : List Str) (sc : Scope) (R : Rx) (X : Cx) (W : WX) : Prop extends CtxE c k cm lm N sc R X W where
  own : cm = true → PassesOwn (model X.prog X.w) X.A X.env X.xe
  stack : X.stack = X.env :: X.outer
  frame : X.env.frame = some X.env.locals
  fn : ∀ x, X.fn x = true
  xcs : ∀ c e f, R.G.excs[c]? = some e → e.field = some f → ∃ fI y, XcTxt X.prog X.K X.mg (R.xa c) fI f y
section
variable {c : Calls} {k : Nat} {cm lm : Bool} {N : List Str} {sc : Scope} {R : Rx} {X : Cx} {W : WX}
theorem CtxS.tr (C : CtxS c k true lm N sc R X W) {W' : WX} {pn : List (Addr × Obj)} {xe : Value → Shared → Prop} (tk : Takes (X.tr pn xe) W') (ho : PassesOwn (model X.prog X.w) X.A X.env xe) : CtxS c k true lm N sc R (X.tr pn xe) W' where
  hK := C.hK
  hB := C.hB
  facts := C.facts
  hN := C.hN
  nd := C.nd
  hsc := C.hsc
  kind := C.kind
  units := C.units
  calm := C.calm
  ex := C.ex
  pin := fun a cls d h => by rw [C.ex rfl] at h; cases h
  room := C.room
  calls := fun h => ⟨(C.calls h).fn, (C.calls h).len, (C.calls h).none, (C.calls h).clo⟩
  tk := tk
  lam := fun h => ⟨(C.lam h).at_, (C.lam h).fn⟩
  own := fun _ => ho
  stack := C.stack
  frame := C.frame
  fn := C.fn
  xcs := C.xcs
theorem CtxS.suite (C : CtxS c k true lm N sc R X W) {a : Addr} {oe : Obj} {cls : Value} {dd : Option Addr} {pn : List (Addr × Obj)} (hz : Zc cls dd oe) (hv : ∃ vs, oe.data = .fields vs) : CtxS (fun _ _ => fail) k false false N sc (R.wx (some (a, cls, dd))) (X.suite a ((a, oe) :: pn)) W0 where
  hK := C.hK
  hB := C.hB
  facts := C.facts.wx _
  hN := C.hN
  nd := C.nd
  hsc := C.hsc
  kind := C.kind
  units := C.units
  calm := fun h => by cases h
  ex := fun h => by cases h
  pin := fun a' cls' d' h => by
    cases h
    exact ⟨oe, List.mem_cons_self, hz, hv⟩
  room := fun h => by cases h
  calls := fun h => by cases h
  tk := takes0
  lam := fun h => by cases h
  own := fun h => by cases h
  stack := C.stack
  frame := C.frame
  fn := C.fn
  xcs := C.xcs
theorem lookup_xc (F : Facts R X.mg) {x : Str} {d : Nat} (h : R.G.names.lookup x = some (.xcls d)) : X.mg x = some (.ref (R.xa d)) ∧ d < R.G.excs.length := by
  obtain ⟨u, v, h1, h2, h3⟩ := F.name x _ h
  obtain ⟨e, hi⟩ := h3 [] R.ex [] (fun _ => none)
  rw [show v = _ from e] at h2
  rw [h1, show u = _ from h2]
  exact ⟨rfl, hi⟩
theorem excOf_ok (C : CtxE c k cm lm N sc R X W) {x : Str} {d : Nat} (h : excOf R.G x sc = some d) : Gl X x ∧ (x == ("__debug__" : Str)) = false ∧ X.mg x = some (.ref (R.xa d)) ∧ d < R.G.excs.length := by
  unfold excOf at h
  split at h
  · rename_i hc
    simp only [Bool.and_eq_true] at hc
    split at h
    · rename_i k hk
      cases h
      exact ⟨globG C hc.1, (notDebug_ok hc.2).1, lookup_xc C.facts hk⟩
    · cases h
  · cases h
theorem swaps_no {e : Expr} {tg : Option Expr} {l : Nat} {env : Env} (h : isComp e = false) : swapsWith e tg l env = pure false := by
  cases e <;> first | rfl | (simp [isComp] at h)
theorem swaps_other {e tg : Expr} {l : Nat} {env : Env} (h : badAsg tg e = false) : swapsWith e (some tg) l env = pure false := by
  cases tg <;> first | exact swaps_no h | skip
  all_goals cases e <;> rfl
theorem blockKind_fn {env : Env} (h : env.scope.kind = .function) : env.blockKind = .function := by
  unfold Env.blockKind
  rw [h]
  rfl
theorem stores_tup (hk : sc.kind = .function) (hsc : X.env.scope = sc) {ts vs : List Expr} {k1 k2 : Nat} {p1 p2 : Pos} : swappedStores [.Tuple ts k1 p1] (.Tuple vs k2 p2) X.env = (if swN sc ts vs then pure none else if vs.all (constantsAlone 8) then unsupported "assign.tuple-of-constant-expressions:order-of-the-stores" else pure (some (parNames sc ts))) := by
  have hb : X.env.blockKind = .function := blockKind_fn (by rw [hsc]; exact hk)
  have e0 : swappedStores [.Tuple ts k1 p1] (.Tuple vs k2 p2) X.env = (if (!(ts.length == 2 || ts.length == 3) || vs.length != ts.length || X.env.blockKind != .function) = true then pure none else if vs.any isStar = true then pure none
      else if ((parNames sc ts).length != ts.length || (parNames sc ts).eraseDups.length != (parNames sc ts).length) = true then pure none else if vs.all (foldedForSure 8) = true then pure none
      else if vs.all (constantsAlone 8) = true then unsupported "assign.tuple-of-constant-expressions:order-of-the-stores" else pure (some (parNames sc ts))) := by
    subst hsc
    unfold swappedStores
    simp only [pure_bind]
    have e2 : (vs.any fun v => match v with
      | .Starred .. => true
      | _ => false) = vs.any isStar := rfl
    split
    · rfl
    · split
      · rename_i h
        rw [if_pos (show vs.any isStar = true from h)]
      · rename_i h
        rw [if_neg (show ¬vs.any isStar = true from h)]
        split
        · rename_i h
          rw [if_pos (show ((parNames X.env.scope ts).length != ts.length || (parNames X.env.scope ts).eraseDups.length != (parNames X.env.scope ts).length) = true from h)]
        · rename_i h
          rw [if_neg (show ¬((parNames X.env.scope ts).length != ts.length || (parNames X.env.scope ts).eraseDups.length != (parNames X.env.scope ts).length) = true from h)]
          split
          · rfl
          · split
            · first | rfl | (simp only [unsupported]; rfl)
            · rfl
  rw [e0, hb]
  unfold swN
  simp only [bne_self_eq_false, Bool.or_false]
  by_cases c1 : (!(ts.length == 2 || ts.length == 3) || vs.length != ts.length) = true
  · simp only [c1, Bool.true_or, if_true]
  · rw [if_neg c1]
    simp only [Bool.not_eq_true] at c1
    rw [c1]
    by_cases c2 : vs.any isStar = true
    · rw [c2]
      simp
    · simp only [Bool.not_eq_true] at c2
      rw [c2]
      by_cases c3 : ((parNames sc ts).length != ts.length || (parNames sc ts).eraseDups.length != (parNames sc ts).length) = true
      · rw [if_neg Bool.false_ne_true, if_pos c3]
        rw [Bool.or_eq_true] at c3
        rcases c3 with c3 | c3 <;> simp [c3]
      · rw [if_neg Bool.false_ne_true, if_neg c3]
        simp only [Bool.not_eq_true] at c3
        rw [Bool.or_eq_false_iff] at c3
        rw [c3.1, c3.2]
        by_cases c4 : vs.all (foldedForSure 8) = true
        · rw [c4]; simp
        · simp only [Bool.not_eq_true] at c4
          rw [c4]
          simp
theorem stores_no {tg e : Expr} (h : badAsg tg e = false) (hn : ∀ ts k p vs k2 p2, tg = .Tuple ts k p → e = .Tuple vs k2 p2 → False) : swappedStores [tg] e X.env = pure none := by
  cases tg <;> first | rfl | (cases h; done) | skip
  cases e <;> first | rfl | skip
  exact (hn _ _ _ _ _ _ rfl rfl).elim
theorem ixs_two {N : List Str} {x y : Str} {is : List Nat} (h : ixs N [x, y] = some is) : ∃ i j, is = [i, j] ∧ ixOf N x = some i ∧ ixOf N y = some j := by
  unfold ixs at h
  cases e : ixOf N x with
  | none => rw [e] at h; cases h
  | some i =>
    unfold ixs at h
    cases e2 : ixOf N y with
    | none => rw [e, e2] at h; cases h
    | some j =>
      rw [e, e2] at h
      cases h
      exact ⟨i, j, rfl, rfl, rfl⟩
theorem par_two {ts : List Expr} (hl : ts.length = 2) (h : (parNames sc ts).length = ts.length) : ∃ x px y py, ts = [.Name x px, .Name y py] ∧ parNames sc ts = [x, y] ∧ sc.names.lookup x = some .local ∧ sc.names.lookup y = some .local := by
  match ts, hl with
  | [a, b], _ =>
    let g : Expr → Option Str := fun t => match t with
      | .Name x p => if sc.names.lookup x == some .local && p.line == a.pos.line then some x else none
      | _ => none
    have pn : parNames sc [a, b] = [a].filterMap g ++ [b].filterMap g := by
      rw [← List.filterMap_append]
      rfl
    rw [pn, List.length_append] at h
    have l1 := List.length_filterMap_le g [a]
    have l2 := List.length_filterMap_le g [b]
    have l1 : ([a].filterMap g).length ≤ 1 := l1
    have l2 : ([b].filterMap g).length ≤ 1 := l2
    have h : ([a].filterMap g).length + ([b].filterMap g).length = 2 := h
    have key : ∀ e : Expr, ([e].filterMap g).length = 1 → ∃ x p, e = .Name x p ∧ [e].filterMap g = [x] ∧ sc.names.lookup x = some .local := fun e he => by
      cases hg : g e with
      | none => rw [List.filterMap_cons_none hg] at he; cases he
      | some z =>
        have e1 : [e].filterMap g = [z] := by rw [List.filterMap_cons_some hg]; rfl
        cases e <;> first | (cases hg; done) | skip
        rename_i x p
        have hg : (if (sc.names.lookup x == some .local && p.line == a.pos.line) = true then some x else none) = some z := hg
        split at hg
        · rename_i c
          cases hg
          simp only [Bool.and_eq_true, beq_iff_eq] at c
          exact ⟨_, p, rfl, e1, c.1⟩
        · cases hg
    obtain ⟨x, px, e1, e2, e3⟩ := key a (by omega)
    obtain ⟨y, py, f1, f2, f3⟩ := key b (by omega)
    refine ⟨x, px, y, py, by rw [e1, f1], ?_, e3, f3⟩
    rw [pn, e2, f2]
    rfl
theorem as_never {st : Stmt} {d : DS} (h : ∀ env hp, d env hp = .stuck) : AS R X W st d := ps_never.imp fun D σ H ⟨μ, env, hp, _, _, p⟩ => by
  rw [h] at p
  exact p
theorem lt_all {i : Nat} (h : i < N.length) : i ∈ allN N := List.mem_range.mpr h
theorem snd_asg (C : CtxS c k cm lm N sc R X W) {tg v : Expr} {pos : Pos} : AS R X W (.Assign [tg] v pos) (evAsg R.G N c cm lm sc tg v) := by
  have iE : ∀ e, AE R X W e (evE R.G N c cm AD lm sc e).1 := fun e => (sndE AD C.toCtxE e).1
  have iG : ∀ e, AG R X (allN N) e (evTgt R.G N cm (fun a => (evE R.G N c cm AD lm sc a).1) sc (allN N) false 8 e) := fun e => snd_tgt C.toCtxE iE (fun _ => C.fn) 8 e
  unfold evAsg
  split
  · rename_i ts k1 p1 vs k2 p2
    have hst := stores_tup (X := X) (sc := sc) C.kind C.hsc (ts := ts) (vs := vs) (k1 := k1) (k2 := k2) (p1 := p1) (p2 := p2)
    split
    · rename_i hs
      rw [if_pos hs] at hst
      exact as_asg (iE _) (iG _) rfl hst rfl
    · rename_i hs
      rw [if_neg hs] at hst
      split
      · rename_i hc
        simp only [Bool.and_eq_true, Bool.not_eq_true', beq_iff_eq] at hc
        obtain ⟨⟨hcm, hcs⟩, hl⟩ := hc
        rw [if_neg (by rw [hcs]; exact Bool.false_ne_true)] at hst
        split
        · rename_i is his
          have hs' : swN sc ts vs = false := by simpa using hs
          unfold swN at hs'
          simp only [Bool.or_eq_false_iff, bne_eq_false_iff_eq, Bool.not_eq_false'] at hs'
          obtain ⟨⟨⟨⟨⟨h1, h2⟩, h3⟩, h4⟩, h5⟩, h6⟩ := hs'
          obtain ⟨x, px, y, py, rfl, hpn, hx, hy⟩ := par_two (sc := sc) hl h4
          rw [hpn] at his hst h5
          obtain ⟨i, j, rfl, hi, hj⟩ := ixs_two his
          have hxy : x ≠ y := fun e => by
            subst e
            simp [List.eraseDups_cons] at h5
          match vs, h2 with
          | [a, b], _ =>
            refine as_par (C.calm hcm) (by rw [C.hN]; exact C.nd) (by rw [C.hN]; exact ixOf_ok hi) (by rw [C.hN]; exact ixOf_ok hj) (fun e => ?_) (by rw [C.hsc]; exact hx) (by rw [C.hsc]; exact hy) (args_ok C.toCtxE iE) hst
            subst e
            have z1 := ixOf_ok hi
            rw [ixOf_ok hj] at z1
            exact hxy (Option.some.inj z1).symm
        · exact as_fail
      · exact as_fail
  · rename_i y py elt gens scope p
    split
    · rename_i hy
      have hy : sc.names.lookup y = some .local := by simpa using hy
      split
      · rename_i i hi
        have hiN : i < N.length := (List.getElem?_eq_some_iff.mp (ixOf_ok hi)).1
        have gN : AG R X (allN N) (.Name y py) (Tp.gName i) := ag_name (by rw [C.hN]; exact C.nd) (by rw [C.hN]; exact ixOf_ok hi) (.inl (by rw [C.hsc]; exact hy)) (.inr (by rw [C.hsc]; exact hy)) (lt_all hiN)
        have hsw : ∃ b : Bool, swapsWith (.ListComp elt gens scope p) (some (.Name y py)) pos.line X.env = pure b := ⟨_, rfl⟩
        obtain ⟨b, hb⟩ := hsw
        cases b with
        | false => exact as_asg (iE _) gN hb rfl rfl
        | true =>
          have nv : ∀ {e : Expr}, (evE R.G N c cm AD lm sc e).1 = eFail → ∀ st, AS R X W st (sAsg (evE R.G N c cm AD lm sc e).1 (Tp.gName i)) := fun {e} h st => by
            rw [h]
            exact as_never fun _ _ => rfl
          match gens with
          | [⟨tg, it, ifs, ia⟩] =>
            by_cases hc : (cm && (blkB sc scope && (noSet it && decide (ia = 0)))) = true
            · have hc' := hc
              simp only [Bool.and_eq_true, decide_eq_true_eq] at hc'
              obtain ⟨h1, h2, h3, h4⟩ := hc'
              subst h1 h4
              have e : (evE R.G N c true AD lm sc (.ListComp elt [⟨tg, it, ifs, 0⟩] scope p)).1 = eComp (ownOf N scope) (evIter R.G (fun a => (evE R.G N c true 39 lm sc a).1) sc tg it) (evTgt R.G N true (fun a => (evE R.G N c true 39 false (relS scope sc) a).1) (relS scope sc) (ownOf N scope) true 8 tg)
                  (evTests (fun a => (evE R.G N c true 39 false (relS scope sc) a).2) ifs) (evE R.G N c true 39 false (relS scope sc) elt).1 := by
                show (valE (if (true && (blkB sc scope && (noSet it && decide ((0 : Int) = 0)))) = true then _ else _)).1 = _
                rw [if_pos hc]
                rfl
              rw [e]
              exact as_setLc (compOk 39 C.toCtxE (fun {lm sc R X W} C e => sndE 39 C e) h2 h3) (by rw [C.hN]; exact ixOf_ok hi) (by rw [C.hsc]; exact hy) hb
            · refine nv ?_ _
              show (valE (if (cm && (blkB sc scope && (noSet it && decide (ia = 0)))) = true then _ else _)).1 = _
              rw [if_neg hc]
              rfl
          | [] => exact nv rfl _
          | ⟨_, _, _, _⟩ :: _ :: _ => exact nv rfl _
      · exact as_fail
    · rename_i hy
      have hy : (X.env.kindOf y == some .local) = false := by
        show (X.env.scope.names.lookup y == some .local) = false
        rw [C.hsc]
        simpa using hy
      refine as_asg (iE _) (iG _) ?_ rfl rfl
      show (pure (X.env.blockKind == .function && (X.env.kindOf y == some .local) && _ && _) : Sem Bool) = _
      rw [hy]
      simp
  · rename_i h1 h2
    split
    · exact as_fail
    · rename_i hb
      have hb : badAsg tg v = false := by simpa using hb
      exact as_asg (iE _) (iG _) (swaps_other hb) (stores_no hb fun ts k p vs k2 p2 e1 e2 => h1 ts k p vs k2 p2 e1 e2) (by cases tg <;> first | rfl | (cases hb))
theorem snd_raise (C : CtxS c k true lm N sc R X W) {e : Expr} {pos : Pos} : AS R X W (.Raise (some e) none pos) (evRaise R.G (fun a => (evE R.G N c true AD lm sc a).1) sc e) := by
  have iE : ∀ e, AE R X W e (evE R.G N c true AD lm sc e).1 := fun e => (sndE AD C.toCtxE e).1
  unfold evRaise
  split
  · rename_i x p a p2
    split
    · rename_i d hd
      obtain ⟨hg, hdb, hm, hlt⟩ := excOf_ok C.toCtxE hd
      split
      · exact as_fail
      · rename_i hc
        simp only [Bool.or_eq_true, Option.isNone_iff_eq_none, not_or, Bool.not_eq_true] at hc
        obtain ⟨hs, hf⟩ := hc
        cases hx : (R.G.excs[d]?).bind (·.field) with
        | none => exact absurd hx hf
        | some f =>
          cases he : R.G.excs[d]? with
          | none => rw [he] at hx; cases hx
          | some ei =>
            have hef : ei.field = some f := by rw [he] at hx; exact hx
            obtain ⟨fI, y, T⟩ := C.xcs d ei f he hef
            exact as_raise C.hK (C.calm rfl) C.tk T hx hm (C.room rfl) (aa_cons (iE a) aa_nil (starEach_plain hs)) hg hdb (starEach_plain hs)
    · exact as_fail
  · exact as_fail
end
theorem sndS {N : List Str} {sc : Scope} : ∀ (n : Nat) {c : Calls} {k : Nat} {cm lm : Bool} {R : Rx} {X : Cx} {W : WX}, CtxS c k cm lm N sc R X W → ∀ st, AS R X W st (evS R.G N c cm lm sc n st)
  | 0, _, _, _, _, _, _, _, _, _ => as_fail
  | n + 1, c, k, cm, lm, R, X, W, C, st => by
    have iE : ∀ e, AE R X W e (evE R.G N c cm AD lm sc e).1 := fun e => (sndE AD C.toCtxE e).1
    have iT : ∀ e, AT R X W e (evE R.G N c cm AD lm sc e).2 := fun e => (sndE AD C.toCtxE e).2
    have iS : ∀ l, ASs R X W l (sSeqs (evStmts (evS R.G N c cm lm sc n) l)) := fun l => ass_all l fun st _ => sndS n C st
    cases st with
    | Expr e pos =>
      have other : AS R X W (.Expr e pos) (if isComp e then sFail else sDrop (evE R.G N c cm AD lm sc e).1) := by
        split
        · exact as_fail
        · rename_i h
          exact as_drop (iE e) (swaps_no (by simpa using h))
      cases e <;> first | exact other | skip
      rename_i q i p
      cases q <;> exact other
    | Pass pos => exact as_next ps_pass
    | Break pos => exact as_break
    | Continue pos => exact as_cont
    | Return o pos =>
      cases o with
      | none => exact as_retN
      | some e => exact as_ret (iE e)
    | Assign ts v pos =>
      match ts with
      | [tg] => exact snd_asg C
      | [] => exact as_fail
      | _ :: _ :: _ => exact as_fail
    | If t a b pos => exact as_if (iT t) (iS a) (iS b)
    | For tg it b o pos =>
      cases o with
      | cons _ _ => exact as_fail
      | nil =>
        show AS R X W _ (if (cm && noSet it) = true then sFor (evIter R.G (fun a => (evE R.G N c cm AD lm sc a).1) sc tg it) (evTgt R.G N cm (fun a => (evE R.G N c cm AD lm sc a).1) sc (allN N) false 8 tg) (sSeqs (evStmts (evS R.G N c cm lm sc n) b)) else sFail)
        split
        · rename_i h
          simp only [Bool.and_eq_true] at h
          exact as_for (C.own h.1) (C.calm h.1) (snd_iter C.toCtxE iE) (snd_tgt C.toCtxE iE (fun _ => C.fn) 8 tg) (iS b) (foldedNo h.2)
        · exact as_fail
    | While t b o pos =>
      cases o with
      | cons _ _ => exact as_fail
      | nil =>
        show AS R X W _ (if cm = true then sWhile (evE R.G N c cm AD lm sc t).2 (sSeqs (evStmts (evS R.G N c cm lm sc n) b)) else sFail)
        split
        · rename_i h
          exact as_while (C.own h) (iT t) (iS b)
        · exact as_fail
    | Raise e c2 pos =>
      cases c2 with
      | some _ => cases e <;> exact as_fail
      | none =>
        cases e with
        | none => exact as_fail
        | some e =>
          show AS R X W _ (if cm = true then evRaise R.G (fun a => (evE R.G N c cm AD lm sc a).1) sc e else sFail)
          split
          · rename_i h
            subst h
            exact snd_raise C
          · exact as_fail
    | Try b hs o fi pos =>
      cases hs with
      | nil => exact as_fail
      | cons h t =>
      obtain ⟨ty, nm, bd, p2⟩ := h
      cases ty with
      | none => exact as_fail
      | some te =>
      cases te <;> first | exact as_fail | skip
      rename_i x p1
      cases nm with
      | none => exact as_fail
      | some y =>
      cases bd with
      | nil => exact as_fail
      | cons u0 us =>
      cases t with
      | cons _ _ => exact as_fail
      | nil =>
      cases o with
      | cons _ _ => exact as_fail
      | nil =>
      cases fi with
      | cons _ _ => exact as_fail
      | nil =>
        show AS R X W _ (if cm = true then (match excOf R.G x sc, ixOf N y with
          | some d, some i => if (sc.names.lookup y == some .local) = true then sTry R.G d i (sSeqs (evStmts (evS R.G N c cm lm sc n) b)) (sSeqs (evStmts (evS R.G N (fun _ _ => fail) false false sc n) (u0 :: us))) else sFail
          | _, _ => sFail) else sFail)
        split
        · rename_i h
          subst h
          split
          · rename_i d i hd hi
            split
            · rename_i hy
              have hy : sc.names.lookup y = some .local := by simpa using hy
              obtain ⟨hg, hdb, hm, hlt⟩ := excOf_ok C.toCtxE hd
              exact as_try C.facts C.hK (C.ex rfl) C.stack C.frame (by rw [C.hN]; exact C.nd) (by rw [C.hN]; exact ixOf_ok hi) (by show X.env.scope.names.lookup y = _; rw [C.hsc]; exact hy) hlt ⟨hg, hdb, .inl hm⟩ C.tk
                (fun W' pn xe tk ho => ass_all b fun st _ => sndS n (C.tr tk ho) st) (fun a oe cls dd pn hz hv => ass_all (u0 :: us) fun st _ => sndS n (C.suite hz hv) st)
            · exact as_fail
          · exact as_fail
        · exact as_fail
    | _ => exact as_fail
end Tp
end
section
set_option Elab.async false
set_option linter.all false
set_option maxRecDepth 100000
set_option maxHeartbeats 1000000

namespace Tp
open PySem PySem.Spec PyProof.Rows L2

structure FnTxt (R : Rx) (mg : Str → Option Value) (fi : FnInfo) (f : Addr) : Prop where
  at_ : ∃ (oc : Value) (od : Option Addr) (osl : Array (Option Value)) (kV doc pm : Value) (an : Option Addr) (cdv ct : Value) (name qual : Str) (params : Arguments),
    R.K.lookup f = some ⟨oc, od, .func (PySem.W.fnOf name qual params fi.body fi.scope .none kV doc pm an cdv ct), osl⟩ ∧ PySem.W.codeIn R.K cdv qual = true ∧ plainPs params = true ∧ params.args.map (·.arg) = fi.ps ∧
    (fi.lam = true → ∃ c P, LamX.TabB R.base mg c P ∧ cdv = .ref c ∧ (P, qual ++ ".<locals>." ++ "<lambda>") ∈ R.T ∧ ∀ p ∈ R.T, p.1 = P → p.2 = qual ++ ".<locals>." ++ "<lambda>")
  scope : FnScope fi.N fi.ps fi.scope

def XcsOk (P : Program) (R : Rx) (mg : Str → Option Value) : Prop := ∀ c e f, R.G.excs[c]? = some e → e.field = some f → ∃ fI y, XcTxt P R.K mg (R.xa c) fI f y
section
variable {R : Rx} {P : Program} {w : World} {mg : Str → Option Value}

def CallsAt (R : Rx) (P : Program) (w : World) (mg : Str → Option Value) (c : Calls) (k : Nat) : Prop := ∀ X : Cx, X.prog = P → X.w = w → X.K = R.K → X.mg = mg → X.base = R.base → CallsOk R X c k
theorem CallsOk.hids {X : Cx} {c : Calls} {k : Nat} (C : CallsOk R X c k) (hid : List Addr) : CallsOk (R.wh hid) X c k :=
  ⟨fun i fi h => C.fn i fi h, fun i fi avs h q => C.len i fi avs h q, fun i avs h q => C.none i avs h q, fun i cs hid2 A outer s H f ws us vs avs μ h Q E => C.clo i cs hid2 A outer s H f ws us vs avs μ h Q E⟩
theorem srel_start {μ : List Addr} {H : Hp} {N : List Str} {avs : List AV} {vs : List V} (ra : RepL R μ H avs vs) : SRel R μ (startA N.length avs) H (L2.start N vs) := by
  have hl := ra.length
  refine ⟨by unfold startA L2.start; simp [hl], fun i av h => ?_⟩
  unfold startA at h
  unfold L2.start
  by_cases hi : i < avs.length
  · rw [List.getElem?_append_left (by simpa using hi), List.getElem?_map] at h
    cases e : avs[i]? with
    | none => rw [e] at h; cases h
    | some a =>
      rw [e] at h
      cases h
      obtain ⟨v, h1, h2⟩ := ra.get e
      exact ⟨v, by rw [List.getElem?_append_left (by simp; omega), List.getElem?_map, h1]; rfl, h2⟩
  · rw [List.getElem?_append_right (by simpa using hi), List.getElem?_replicate] at h
    split at h <;> cases h
theorem callFn_len {keep : Bool} {np n : Nat} {d : DS} {avs : List AV} {h : AHp} (hn : callFn keep np n d avs h ≠ .stuck) : avs.length = np := by
  unfold callFn at hn
  by_cases hc : avs.length = np
  · exact hc
  · rw [if_neg hc] at hn
    exact absurd rfl hn
theorem fn_fd {fi : FnInfo} {f : Addr} (T : FnTxt R mg fi f) : ∃ (name qual : Str) (params : Arguments) (oc : Value) (od : Option Addr) (osl : Array (Option Value)) (kV doc pm : Value) (an : Option Addr) (cdv ct : Value),
    R.K.lookup f = some ⟨oc, od, .func (PySem.W.fnOf name qual params fi.body fi.scope .none kV doc pm an cdv ct), osl⟩ ∧ PySem.W.codeIn R.K cdv qual = true ∧
    (fi.lam = true → ∃ c P, LamX.TabB R.base mg c P ∧ cdv = .ref c ∧ (P, qual ++ ".<locals>." ++ "<lambda>") ∈ R.T ∧ ∀ p ∈ R.T, p.1 = P → p.2 = qual ++ ".<locals>." ++ "<lambda>") ∧
    Binds R.K (PySem.W.fnOf name qual params fi.body fi.scope .none kV doc pm an cdv ct) fi.ps [] ∧ KwB R.K (PySem.W.fnOf name qual params fi.body fi.scope .none kV doc pm an cdv ct) fi.ps := by
  obtain ⟨oc, od, osl, kV, doc, pm, an, cdv, ct, name, qual, params, h1, h2, h3, h4, h5⟩ := T.at_
  have nd : fi.ps.Nodup := by
    rw [← T.scope.pre]
    exact T.scope.nd.sublist (List.take_sublist _ _)
  exact ⟨name, qual, params, oc, od, osl, kV, doc, pm, an, cdv, ct, h1, h2, h5, .all fun us hl => bind_all h3 h4 rfl nd hl, fun s ks us ws zs _ ho => .of_eq (bind_order h3 h4 rfl nd ho)⟩
theorem spF_len {m : List AV → M AV} {np : Nat} {vs : List V} {H : Hp} {Q : VK} {E : XK} (h : spF R m np vs H Q E) : vs.length = np := by
  obtain ⟨hid, μ, hp, avs, h1, h2, h3, h4⟩ := h
  rw [h2.length, h3]
theorem calls_zero (T : ∀ i fi, R.G.fns[i]? = some fi → FnTxt R mg fi (R.fa i)) {k : Nat} : CallsAt R P w mg (callN R.G 0) k := by
  intro X e1 e2 e3 e4 e5
  subst e1 e2 e4
  refine ⟨fun i fi h => ?_, fun i fi avs h _ q => absurd rfl q, fun i avs h _ => rfl, fun i cs hid A outer s H f ws us vs avs μ h Q E hr e0 hrel hc ro ra r p => p.elim⟩
  obtain ⟨name, qual, params, oc, od, osl, kV, doc, pm, an, cdv, ct, h1, h2, h3, h4, h5⟩ := fn_fd (T i fi h)
  rw [e3]
  exact ⟨_, ⟨fun vs H Q E q => spF_len q, fun A outer s H args us vs Q E hr e0 hb r q => by
    obtain ⟨_, _, _, _, _, _, _, p⟩ := q
    exact p.elim⟩, h4, h5⟩

theorem fn_succ (F : Facts R mg) (hex : R.ex = none) (hxc : XcsOk P R mg) {n k : Nat} (ih : CallsAt R P w mg (callN R.G n) k) {i : Nat} {fi : FnInfo} (h : R.G.fns[i]? = some fi) (S : FnScope fi.N fi.ps fi.scope) {name qual : Str} {params : Arguments} {oc : Value} {od : Option Addr} {osl : Array (Option Value)} {kV doc pm : Value} {an : Option Addr} {cdv ct : Value}
    (h1 : R.K.lookup (R.fa i) = some ⟨oc, od, .func (PySem.W.fnOf name qual params fi.body fi.scope .none kV doc pm an cdv ct), osl⟩) (h2 : PySem.W.codeIn R.K cdv qual = true)
    (h3 : fi.lam = true → ∃ c P, LamX.TabB R.base mg c P ∧ cdv = .ref c ∧ (P, qual ++ ".<locals>." ++ "<lambda>") ∈ R.T ∧ ∀ p ∈ R.T, p.1 = P → p.2 = qual ++ ".<locals>." ++ "<lambda>") :
    FnOk P w R.K mg R.base (L2.CX P w) (k + 1) (R.fa i) (PySem.W.fnOf name qual params fi.body fi.scope .none kV doc pm an cdv ct) fi.ps (spF R (callN R.G (n + 1) (.fn i)) fi.ps.length) := by
  refine fn_of h1 h2 S (fun vs H Q E q => spF_len q) (fun A outer s H vs Q E hr hsp => ?_)
  obtain ⟨hid, μ, hp, avs, hrel, ra, hl, p⟩ := hsp
  have C : CtxS (callN R.G n) k true fi.lam fi.N fi.scope (R.wh hid) (cxOf (L2.CX P w) P w R.K mg R.base fi.N qual fi.scope (R.fa i) cdv A outer s H E) (WofE E) := {
    hK := rfl
    hB := rfl
    facts := F.wh hid
    hN := rfl
    nd := S.nd
    hsc := rfl
    kind := S.kind
    units := by
      have := hr.un
      show (A.deeper (envOfC qual fi.scope s.heap.objs.size (R.fa i) cdv)).units + 65 < cLine
      omega
    calm := fun _ => rfl
    ex := fun _ => hex
    pin := fun a cls d z => by
      rw [show R.ex = none from hex] at z; cases z
    room := fun _ => hr
    calls := fun _ => (ih (cxOf (L2.CX P w) P w R.K mg R.base fi.N qual fi.scope (R.fa i) cdv A outer s H E) rfl rfl rfl rfl rfl).hids hid
    tk := takes_of rfl rfl rfl rfl
    lam := fun hlm => by
      obtain ⟨c, Pt, g1, g2, g3, g4⟩ := h3 hlm
      exact ⟨⟨c, Pt, g1, g2, g3, g4⟩, fun _ => rfl⟩
    own := fun _ => passes_of rfl
    stack := rfl
    frame := rfl
    fn := fun _ => rfl
    xcs := hxc }
  refine ⟨_, ass_all fi.body fun st _ => sndS AD C st, μ, startA fi.N.length avs, hp, srel_start ra, hrel, ?_⟩
  have hlen : μ.length = hp.length := hrel.len
  have p : Post (R.wh hid) (WofE E) [] μ H (callFn fi.keep fi.ps.length fi.N.length (evSs R.G fi.N (callN R.G n) fi.lam fi.scope fi.body) avs hp) Q := by
    have e : callN R.G (n + 1) (.fn i) avs = callFn fi.keep fi.ps.length fi.N.length (evSs R.G fi.N (callN R.G n) fi.lam fi.scope fi.body) avs := by
      simp only [callN, h]
    rw [← e]
    exact p
  unfold callFn at p
  rw [if_pos hl] at p
  show PostS (R.wh hid) (WofE E) _ μ H (evSs R.G fi.N (callN R.G n) fi.lam fi.scope fi.body (startA fi.N.length avs) hp)
  cases eo : evSs R.G fi.N (callN R.G n) fi.lam fi.scope fi.body (startA fi.N.length avs) hp with
  | nx env' h' =>
    rw [eo] at p
    simp only [← hlen] at p
    exact fun μ' H' σ' ev S' hr' => back_ok p ev hr' rfl
  | rt v h' =>
    rw [eo] at p
    simp only [← hlen] at p
    exact fun μ' H' w ev hr' rv => back_ok p ev hr' rv
  | exc c x env' h' =>
    rw [eo] at p
    simp only [← hlen] at p
    exact fun μ' H' σ' cls d ev S' hr' rx => backX_ok p ev hr' rx
  | bk env' h' => rw [eo] at p; exact p.elim
  | ct env' h' => rw [eo] at p; exact p.elim
  | stuck => rw [eo] at p; exact p.elim
theorem calls_succ (F : Facts R mg) (T : ∀ i fi, R.G.fns[i]? = some fi → FnTxt R mg fi (R.fa i)) (hex : R.ex = none) (hxc : XcsOk P R mg) {n k : Nat} (ih : CallsAt R P w mg (callN R.G n) k) : CallsAt R P w mg (callN R.G (n + 1)) (k + 1) := by
  intro X e1 e2 e3 e4 e5
  subst e1 e2 e4
  refine ⟨fun i fi h => ?_, fun i fi avs h hf q => ?_, fun i avs h hf => ?_, fun l cs hid A outer s H f ws us vs avs μ h Q E hr e0 hrel hc ro ra r p => ?_⟩
  · obtain ⟨name, qual, params, oc, od, osl, kV, doc, pm, an, cdv, ct, h1, h2, h3, h4, h5⟩ := fn_fd (T i fi h)
    have S := (T i fi h).scope
    rw [e3, e5]
    exact ⟨_, fn_succ F hex hxc ih h S h1 h2 h3, h4, h5⟩
  · have e : callN R.G (n + 1) (.fn i) avs = callFn fi.keep fi.ps.length fi.N.length (evSs R.G fi.N (callN R.G n) fi.lam fi.scope fi.body) avs := by
      simp only [callN, hf]
    rw [e] at q
    exact callFn_len q
  · simp only [callN, hf]
    rfl
  · rw [e3, e5] at e0
    refine clo_run (k := k) (fun hid A outer s H E f c' qual cl hok hr => ?_) cs hid A outer s H f ws us vs avs μ h Q E hr e0 hrel hc ro ra r p
    obtain ⟨g1, g2, S⟩ := lamOk hok
    have C : CtxE (callN R.G n) k true false l.NN l.scope (R.wh hid) (lcx R X.prog X.w X.mg l qual cl c' f A outer s H E) (WofE E) := {
      hK := rfl
      hB := rfl
      facts := F.wh hid
      hN := rfl
      nd := S.nd
      hsc := rfl
      kind := S.kind
      units := by
        have := hr.un
        show (A.deeper (NdefX.envF (lnf l qual cl c') f s.heap.objs.size)).units + 65 < cLine
        omega
      calm := fun _ => rfl
      ex := fun _ => hex
      pin := fun a cls d z => by
        rw [show R.ex = none from hex] at z; cases z
      room := fun _ => hr
      calls := fun _ => (ih (lcx R X.prog X.w X.mg l qual cl c' f A outer s H E) rfl rfl rfl rfl rfl).hids hid
      tk := takes_of rfl rfl rfl rfl
      lam := fun z => by cases z }
    exact (sndE AD C l.body).1
theorem calls_all (F : Facts R mg) (T : ∀ i fi, R.G.fns[i]? = some fi → FnTxt R mg fi (R.fa i)) (hex : R.ex = none) (hxc : XcsOk P R mg) : ∀ n, CallsAt R P w mg (callN R.G n) n
  | 0 => calls_zero T
  | n + 1 => calls_succ F T hex hxc (calls_all F T hex hxc n)
end
end Tp
end
section
set_option Elab.async false
set_option linter.all false
set_option maxRecDepth 100000
set_option maxHeartbeats 1000000

namespace Tp
open PySem PySem.Spec PyProof.Rows L2

structure FnSrc where
  st : Stmt
  name : Str
  at_ : Str × Option Str
  nm : Str
  qual : Str
  ps : List Str
  N : List Str
  keep : Bool
  lam : Bool
def FnSrc.info (s : FnSrc) : FnInfo := { name := s.name, ps := s.ps, N := s.N, body := dBody s.st, scope := dScope s.st, keep := s.keep, lam := s.lam }
def FnSrc.defD (s : FnSrc) : He.DefD := { at_ := s.at_, name := s.nm, qual := s.qual, params := dArgs s.st, body := dBody s.st, scope := dScope s.st }

def scB (N ps : List Str) (sc : Scope) : Bool := sc.kind == .function && !sc.isCoroutine && !sc.isGenerator && decide N.Nodup && decide (N.take ps.length = ps) && (ps.all fun x => sc.names.lookup x == some .local || sc.names.lookup x == some .cell) && sc.names.all fun y => !(y.2 == .free)
theorem scB_ok {N ps : List Str} {sc : Scope} (h : scB N ps sc = true) : FnScope N ps sc := by
  unfold scB at h
  simp only [Bool.and_eq_true, beq_iff_eq, Bool.not_eq_true', decide_eq_true_eq, List.all_eq_true, Bool.or_eq_true, beq_eq_false_iff_ne] at h
  obtain ⟨⟨⟨⟨⟨⟨h1, h2⟩, h3⟩, h4⟩, h5⟩, h6⟩, h7⟩ := h
  exact ⟨h1, h2, h3, h4, h5, h6, h7⟩

def conB : AV → Value → Bool
  | .non, .none => true
  | .bl b, .bool c => b == c
  | .int i, .int j _ => decide (i = j)
  | .str s, .str z _ => decide (z = ⟨s.toArray⟩)
  | _, _ => false
theorem conB_ok {av : AV} {u : Value} (h : conB av u = true) : ∃ v : V, RelV v u ∧ ∀ (R : Rx) (μ : List Addr) (H : Hp), Rep R μ H av v := by
  unfold conB at h
  split at h
  · exact ⟨.non, rfl, fun R μ H => rfl⟩
  · rename_i b c
    have : b = c := by simpa using h
    subst this
    exact ⟨.bl b, rfl, fun R μ H => rfl⟩
  · rename_i i j t
    have : i = j := by simpa using h
    subst this
    exact ⟨.int i, ⟨t, rfl⟩, fun R μ H => rfl⟩
  · rename_i s z t
    have : z = ⟨s.toArray⟩ := by simpa using h
    subst this
    exact ⟨.str ⟨s.toArray⟩, ⟨t, rfl⟩, fun R μ H => rfl⟩
  · cases h
def xaOf (G : Glob) (K : PySem.W.Frag) (k : Nat) : Addr := match G.excs[k]? with
  | some e => He.ga K e.name
  | none => 0
def caOf (G : Glob) (K : PySem.W.Frag) (k : Nat) : Addr := match G.clss[k]? with
  | some e => He.ga K e.name
  | none => 0
def faOf (srcs : List FnSrc) (K : PySem.W.Frag) (i : Nat) : Addr := match srcs[i]? with
  | some s => He.fAd K s.at_
  | none => 0
def nameB (srcs : List FnSrc) (G : Glob) (K : PySem.W.Frag) (q : Str × GV) : Bool := match q.2 with
  | .fn i => decide (i < G.fns.length) && He.eqO (PySem.W.nsIn K mainGlobals q.1) (some (some (.ref (faOf srcs K i))))
  | .cls i => decide (i < G.clss.length) && He.eqO (PySem.W.nsIn K mainGlobals q.1) (some (some (.ref (caOf G K i))))
  | .xcls i => decide (i < G.excs.length) && He.eqO (PySem.W.nsIn K mainGlobals q.1) (some (some (.ref (xaOf G K i))))
  | .con v => (match PySem.W.nsIn K mainGlobals q.1 with
    | some (some u) => conB v u
    | _ => false)

def xcBodyB (f : Str) : FuncBody → Bool
  | .stmts [.Expr (.Call (.Attribute (.Call (.Name s1 _) [] [] _) s2 a2) [] [] a3) _, .Assign [.Attribute (.Name s3 _) s4 _] (.Name s5 _) _] =>
    decide (s1 = "super") && decide (s2 = "__init__") && decide (s3 = "self") && decide (s4 = f) && decide (s5 = f) && (a2.endLine == a3.line)
  | _ => false
def xcParB (f : Str) : Arguments → Bool
  | ⟨[], [⟨s1, none, _⟩, ⟨s2, none, _⟩], none, [], [], none, []⟩ => decide (s1 = "self") && decide (s2 = f)
  | _ => false
def xcScB (f : Str) (sc : Scope) : Bool := (sc.names.all fun x => !(x.2 == .cell)) && !sc.isCoroutine && !sc.isGenerator && sc.kind == .function && sc.names.lookup ("super" : Str) == some .globalImplicit && sc.names.lookup ("__class__" : Str) == some .free && sc.names.lookup ("self" : Str) == some .local && sc.names.lookup f == some .local
def xcCodeB (prog : Program) (K : PySem.W.Frag) (qual : Str) : Value → Bool
  | .ref cda => PySem.W.codeIn K (.ref cda) qual && (match K.lookup cda with
    | some ⟨_, _, .fields vs, _⟩ => (match (vs[2]? : Option Value) with
      | some (.str file _) => (prog.main.file : Str) == file
      | _ => false)
    | _ => false)
  | _ => false
def xcCellB (K : PySem.W.Frag) (C : Addr) : List (Str × Addr) → Bool
  | [(s, cc)] => decide (s = "__class__") && (match K.lookup cc with
    | some ⟨_, _, .cell (some (.ref D)), _⟩ => decide (D = C)
    | _ => false)
  | _ => false
def isNone : Value → Bool
  | .none => true
  | _ => false
def xcFnB (prog : Program) (K : PySem.W.Frag) (C fI : Addr) (f : Str) : Bool := match K.lookup fI with
  | some ⟨_, _, .func fd, _⟩ => decide (fd.name = "__init__") && decide (fd.globals = mainGlobals) && decide (fd.builtins = builtinsNs) && isNone fd.defaults && isNone fd.kwdefaults && xcParB f fd.params && xcBodyB f fd.body && xcScB f fd.scope && xcCodeB prog K fd.qualname fd.code && xcCellB K C fd.closure
  | _ => false
def xcClsB (K : PySem.W.Frag) (C : Addr) : Bool := match K.lookup C with
  | some ⟨.type t, _, .cls cd, sl⟩ => decide (t = "type") && (match cd.mro with
      | .ref D :: bm => decide (D = C) && HandSPX.refsVE bm
      | _ => false) && cd.hasDict && !cd.hasDel && decide (sl.size = 6) && decide (sl[4]? = some (some (.builtin "ValueError.__new__")))
  | _ => false
def xcAllB (prog : Program) (K : PySem.W.Frag) (C fI : Addr) (f : Str) : Bool :=
  xcClsB K C && He.eqO (PySem.W.findIn K (.ref C) "__setattr__") (some (some (.builtin "object.__setattr__"))) && He.eqO (PySem.W.findIn K (.ref C) f) (some none) && He.eqO (PySem.W.findIn K (.ref C) "__init__") (some (some (.ref fI))) &&
    decide (PySem.W.typeIn K (.ref fI) = some (.type "function")) && PySem.W.keepIn K (.ref C) && decide (PySem.W.subIn K (.ref C) (.type "BaseException") = some true) && decide (PySem.W.subIn K (.ref C) (.type "ValueError") = some true) &&
    decide (PySem.W.typeIn K (.ref C) = some (.type "type")) && decide (PySem.W.mroIn K C (.ref C) = some true) && He.eqO (PySem.W.ks_superIn K C C "__init__") (some (some (.builtin "ValueError.__init__"))) && xcFnB prog K C fI f
theorem xcFnB_ok {prog : Program} {K : PySem.W.Frag} {C fI : Addr} {f : Str} (h : xcFnB prog K C fI f = true) :
    ∃ (oc : Value) (od : Option Addr) (qual : Str) (scope : Scope) (doc pm : Value) (an : Option Addr) (cda cc : Addr) (ct : Value) (osl : Array (Option Value)) (p1 p2 a0 a1 a2 a3 a4 q1 q2 q3 q4 : Pos),
    K.lookup fI = some ⟨oc, od, .func (PySem.W.ksFn "__init__" qual (xcA f p1 p2) (Tp.xcB f f a0 a1 a2 a3 a4 q1 q2 q3 q4) scope .none .none doc pm an (.ref cda) ct cc), osl⟩ ∧ PySem.W.codeIn K (.ref cda) qual = true ∧ (a2.endLine == a3.line) = true ∧
    (scope.names.all fun x => !(x.2 == .cell)) = true ∧ scope.isCoroutine = false ∧ scope.isGenerator = false ∧ scope.kind = .function ∧
    scope.names.lookup ("super" : Str) = some .globalImplicit ∧ scope.names.lookup ("__class__" : Str) = some .free ∧ scope.names.lookup ("self" : Str) = some .local ∧ scope.names.lookup f = some .local ∧
    (∃ ccl cdd vs ccs file tf, K.lookup cda = some ⟨ccl, cdd, .fields vs, ccs⟩ ∧ vs[2]? = some (.str file tf) ∧ ((prog.main.file : Str) == file) = true) ∧
    (∃ cl cld csl, K.lookup cc = some ⟨cl, cld, .cell (some (.ref C)), csl⟩) := by
  unfold xcFnB at h
  split at h
  · rename_i oc od fd osl hlk
    obtain ⟨n1, n2, n3, n4, n5, n6, n7, n8, n9, n10, n11, n12, n13, n14, n15⟩ := fd
    simp only [Bool.and_eq_true, decide_eq_true_eq] at h
    obtain ⟨⟨⟨⟨⟨⟨⟨⟨⟨h1, h2⟩, h3⟩, h4⟩, h5⟩, h6⟩, h7⟩, h8⟩, h9⟩, h10⟩ := h
    subst h1 h2 h3
    have e4 : n8 = .none := by
      unfold isNone at h4
      split at h4
      · rfl
      · cases h4
    have e5 : n9 = .none := by
      unfold isNone at h5
      split at h5
      · rfl
      · cases h5
    subst e4 e5
    unfold xcParB at h6
    split at h6
    · rename_i s1 p1 s2 p2
      simp only [Bool.and_eq_true, decide_eq_true_eq] at h6
      obtain ⟨rfl, rfl⟩ := h6
      unfold xcBodyB at h7
      split at h7
      · rename_i s1 a0 a1 s2 a2 a3 a4 s3 q1 s4 q2 s5 q3 q4
        simp only [Bool.and_eq_true, decide_eq_true_eq] at h7
        obtain ⟨⟨⟨⟨⟨rfl, rfl⟩, rfl⟩, h7a⟩, h7b⟩, h7c⟩ := h7
        unfold xcScB at h8
        simp only [Bool.and_eq_true, beq_iff_eq, Bool.not_eq_true'] at h8
        obtain ⟨⟨⟨⟨⟨⟨⟨g1, g2⟩, g3⟩, g4⟩, g5⟩, g6⟩, g7⟩, g8⟩ := h8
        unfold xcCodeB at h9
        split at h9
        · rename_i cda
          simp only [Bool.and_eq_true] at h9
          obtain ⟨c1, c2⟩ := h9
          split at c2
          · rename_i ccl cdd vs ccs hcode
            split at c2
            · rename_i file tf hvs
              unfold xcCellB at h10
              split at h10
              · rename_i s cc
                simp only [Bool.and_eq_true, decide_eq_true_eq] at h10
                obtain ⟨rfl, h10⟩ := h10
                split at h10
                · rename_i cl cld D csl hcell
                  have : D = C := by simpa using h10
                  subst this
                  subst h7a
                  subst h7b
                  exact ⟨oc, od, _, _, _, _, _, cda, cc, _, osl, p1, p2, a0, a1, a2, a3, a4, q1, q2, q3, q4, hlk, c1, by simpa using h7c, g1, g2, g3, g4, g5, g6, g7, g8, ⟨ccl, cdd, vs, ccs, file, tf, hcode, hvs, c2⟩, ⟨cl, cld, csl, hcell⟩⟩
                · cases h10
              · cases h10
            · cases c2
          · cases c2
        · cases h9
      · cases h7
    · cases h6
  · cases h
theorem xcClsB_ok {K : PySem.W.Frag} {C : Addr} (h : xcClsB K C = true) : ∃ nm q N bs bm sn sub ab col dd k0 k1 k2 k3 k5, K.lookup C = some (excClassObj nm q C N bs bm true sn sub ab col dd k0 k1 k2 k3 k5 "ValueError.__new__") ∧ HandSPX.refsVE bm = true := by
  unfold xcClsB at h
  split at h
  · rename_i t dd cd sl hlk
    obtain ⟨c1, c2, c3, c4, c5, c6, c7, c8, c9, c10, c11⟩ := cd
    simp only [Bool.and_eq_true, decide_eq_true_eq, Bool.not_eq_true'] at h
    obtain ⟨⟨⟨⟨⟨h1, h2⟩, h3⟩, h4⟩, h5⟩, h6⟩ := h
    subst h1
    split at h2
    · rename_i D bm
      simp only [Bool.and_eq_true, decide_eq_true_eq] at h2
      obtain ⟨h2, h7⟩ := h2
      subst h2
      match sl, h5, h6 with
      | ⟨[k0, k1, k2, k3, k4, k5]⟩, _, h6 =>
        have h6 : k4 = some (.builtin "ValueError.__new__") := by simpa using h6
        subst h6
        have h3 : c6 = true := by simpa using h3
        have h4 : c11 = false := by simpa using h4
        subst h3 h4
        exact ⟨c1, c5, c4, c2, bm, c7, c8, c9, c10, dd, k0, k1, k2, k3, k5, hlk, h7⟩
    · cases h2
  · cases h
theorem xcAllB_ok {prog : Program} {K : PySem.W.Frag} {C fI : Addr} {f : Str} {mg : Str → Option Value} (h : xcAllB prog K C fI f = true) (tp : PySem.W.nsIn K cStatics "thirdparty.any" = some none) (su : mg "super" = none) (top : (prog.main.scope.names.lookup ("super" : Str)).isSome = false) (hf : (("self" : Str) == f) = false) (hd : (f == ("__debug__" : Str)) = false) :
    XcTxt prog K mg C fI f f := by
  unfold xcAllB at h
  simp only [Bool.and_eq_true, decide_eq_true_eq] at h
  obtain ⟨⟨⟨⟨⟨⟨⟨⟨⟨⟨⟨h1, h2⟩, h3⟩, h4⟩, h5⟩, h6⟩, h7⟩, h8⟩, h9⟩, h10⟩, h11⟩, h12⟩ := h
  exact ⟨xcClsB_ok h1, He.eqO_ok h2, He.eqO_ok h3, He.eqO_ok h4, h5, h6, h7, h8, h9, h10, He.eqO_ok h11, tp, su, top, hf, hd, xcFnB_ok h12⟩

def excB (prog : Program) (G : Glob) (K : PySem.W.Frag) (C : Addr) (e : ExcInfo) : Bool :=
  xfB K C && (PySem.W.clsIn K C).isSome && He.eqO (PySem.W.findIn K (.ref C) "__class__") (some (some (.builtin "object.__class__"))) && decide (PySem.W.mroIn K C (.type "object") = some true) && decide (PySem.W.kitOne K (.ref C) (.type "ValueError") = some true) &&
  ((List.range G.excs.length).all fun d => decide (PySem.W.kitOne K (.ref C) (.ref (xaOf G K d)) = some (e.up.contains d)) && decide (PySem.W.exmOne K (.ref C) (.ref (xaOf G K d)) = some (e.up.contains d))) &&
  (match e.field with
    | some f => He.eqO (PySem.W.findIn K (.ref C) f) (some none) && !(("self" : Str) == f) && !(f == ("__debug__" : Str)) && xcAllB prog K C (He.ma K C "__init__") f
    | none => true)

def noLstB (K : PySem.W.Frag) : Bool := K.all fun q => match q.2 with
  | ⟨.type t, none, .seq _ _, _⟩ => decide (t ≠ "list")
  | _ => true
theorem noLst_ok {K : PySem.W.Frag} (h : noLstB K = true) {H : Hp} {a : Addr} {vs : List V} (hs : SqL K H a vs) : Rd H a (.lst vs) := by
  rcases hs with r | ⟨o, its, n, h1, h2, h3, h4, _⟩
  · exact r
  · exfalso
    have z := List.all_eq_true.mp h (a, o) (He.lookup_mem h1)
    obtain ⟨oc, od, dt, sl⟩ := o
    have h2 : oc = .type "list" := h2
    have h3 : od = none := h3
    have h4 : dt = .seq its n := h4
    subst h2 h3 h4
    simp at z

def txtB (prog : Program) (srcs : List FnSrc) (G : Glob) (K : PySem.W.Frag) : Bool :=
  (G.names.all fun q => nameB srcs G K q) && (bNames.all fun x => (G.names.lookup x).isSome || He.eqO (PySem.W.nsIn K mainGlobals x) (some none)) &&
  decide (PySem.W.specialIn K (.builtin "object.__class__") "__get__" = some (some (.builtin "getset_descriptor.__get__"))) && decide (PySem.W.takesIn K (.builtin "object.__class__") = some true) &&
  ((List.range G.excs.length).all fun k => match G.excs[k]? with
    | some e => excB prog G K (xaOf G K k) e
    | none => true) &&
  He.eqO (PySem.W.nsIn K cStatics "thirdparty.any") (some none) && He.eqO (PySem.W.nsIn K mainGlobals "super") (some none) && !(prog.main.scope.names.lookup ("super" : Str)).isSome &&
  G.clss.isEmpty && noLstB K &&
  ((srcs.filter (·.lam)).all fun s => (srcs.filter (·.lam)).all fun s' => decide ((He.cT K s.at_).2 ≠ (He.cT K s'.at_).2) || decide (s.qual = s'.qual))
def Rof (srcs : List FnSrc) (G : Glob) (K : PySem.W.Frag) (base : Heap) : Rx where
  K := K
  base := base
  G := G
  fa := faOf srcs K
  ca := caOf G K
  xa := xaOf G K
  T := (srcs.filter (·.lam)).map fun s => ((He.cT K s.at_).2, s.qual ++ ".<locals>." ++ "<lambda>")
  ex := none
  hid := []

def asZ (g : Addr → Option Obj) (n : Nat) : List Addr := He.asD g n ++ [cStatics]
structure SaysZ (dfs : List He.DefD) (tf : List He.Defn) (ex : PySem.W.Frag → Bool) (h : Heap) (K : PySem.W.Frag) : Prop where
  val : dfs.map (fun d => He.fnW K d.at_) = dfs.map He.DefD.val
  ok : (dfs.all fun d => d.ok K) = true
  more : ex K = true
  hd : ∀ p ∈ tf, PySem.W.codeHdIn K (He.cT K p).1 (He.cT K p).2 = true
  out : ∀ p ∈ tf, K.lookup (He.cT K p).2 = none
  empty : ∀ p ∈ tf, h.get? (He.cT K p).2 = some { cls := .none, data := .fields #[] }
abbrev AlZ : Type := List He.FnW × Bool
def obsZ (n : Nat) (dfs : List He.DefD) (tf : List He.Defn) (ex : PySem.W.Frag → Bool) (g : Addr → Option Obj) : AlZ :=
  (dfs.map (fun d => He.fnW (He.frT g (asZ g n)) d.at_), (dfs.all fun d => d.ok (He.frT g (asZ g n))) && (ex (He.frT g (asZ g n)) && He.tabsB g tf (He.frT g (asZ g n))))
theorem saysZ_of {n : Nat} {dfs : List He.DefD} {tf : List He.Defn} {ex : PySem.W.Frag → Bool} {h : Heap} (e : obsZ n dfs tf ex h.get? = (dfs.map He.DefD.val, true)) : SaysZ dfs tf ex h (He.frT h.get? (asZ h.get? n)) := by
  unfold obsZ at e
  simp only [Prod.mk.injEq, Bool.and_eq_true] at e
  obtain ⟨e1, e2, e3, e4⟩ := e
  have key : ∀ p ∈ tf, PySem.W.codeHdIn (He.frT h.get? (asZ h.get? n)) (He.cT (He.frT h.get? (asZ h.get? n)) p).1 (He.cT (He.frT h.get? (asZ h.get? n)) p).2 = true ∧ ∃ o, h.get? (He.cT (He.frT h.get? (asZ h.get? n)) p).2 = some o ∧ He.emptyTab o = true := fun p hp => by
    obtain ⟨h3, h4⟩ := He.ba (List.all_eq_true.mp e4 p hp)
    refine ⟨h3, ?_⟩
    cases q : h.get? (He.cT (He.frT h.get? (asZ h.get? n)) p).2 with
    | none => rw [q] at h4; cases h4
    | some o => rw [q] at h4; exact ⟨o, rfl, h4⟩
  exact ⟨e1, e2, e3, fun p hp => (key p hp).1, fun p hp => by
    obtain ⟨_, o, q, z⟩ := key p hp
    exact He.frT_none q z, fun p hp => by
    obtain ⟨_, o, q, z⟩ := key p hp
    rw [q, He.emptyTab_eq z]⟩
def hookZ (n : Nat) (dfs : List He.DefD) (tf : List He.Defn) (ex : PySem.W.Frag → Bool) : PySem.W.Hook where
  α := AlZ
  obs := fun s => obsZ n dfs tf ex s.heap.get?
  val := fun _ => (dfs.map He.DefD.val, true)
  says := fun _ h => ∃ K : PySem.W.Frag, K.In h ∧ SaysZ dfs tf ex h K
  of := fun _ _ e => ⟨_, He.frT_in, saysZ_of e⟩
  keeps := fun _ _ _ ⟨K, hK, c⟩ k => ⟨K, PySem.W.Frag.In.keeps hK k, ⟨c.val, c.ok, c.more, c.hd, c.out, fun p hp => k _ _ (c.empty p hp)⟩⟩
theorem obsZ_eq {n : Nat} {dfs : List He.DefD} {tf : List He.Defn} {ex : PySem.W.Frag → Bool} {g : Addr → Option Obj} {s : Shared} (h : ∀ a, g a = s.heap.get? a) : obsZ n dfs tf ex g = (hookZ n dfs tf ex).obs s := by
  have e : g = s.heap.get? := funext h
  rw [e] <;> rfl
theorem SaysZ.def_ {dfs : List He.DefD} {tf : List He.Defn} {ex : PySem.W.Frag → Bool} {h : Heap} {K : PySem.W.Frag} (c : SaysZ dfs tf ex h K) {i : Nat} {d : He.DefD} (hd : dfs[i]? = some d) : ∃ fd, FunD K d.name d.qual d.params d.body d.scope (d.dvs K) (d.kws K) (He.fAd K d.at_) fd := by
  have e2 : (dfs.map fun d => He.fnW K d.at_)[i]? = (dfs.map He.DefD.val)[i]? := by rw [c.val]
  rw [List.getElem?_map, List.getElem?_map, hd] at e2
  exact He.DefD.funD (Option.some.inj e2) (List.all_eq_true.mp c.ok d (List.mem_of_getElem? hd))

section
variable {prog : Program} {srcs : List FnSrc} {G : Glob} {K : PySem.W.Frag} {base : Heap} {mg : Str → Option Value}
theorem facts_of (X : K.In base) (Gn : base.Ns mainGlobals mg) (hG : G.fns = srcs.map FnSrc.info) (hkeep : ∀ (i : Nat) (s : FnSrc), srcs[i]? = some s → PySem.W.keepIn K (.ref (He.fAd K s.at_)) = true) (h : txtB prog srcs G K = true) : Facts (Rof srcs G K base) mg ∧ XcsOk prog (Rof srcs G K base) mg := by
  unfold txtB at h
  simp only [Bool.and_eq_true, decide_eq_true_eq, Bool.not_eq_true'] at h
  obtain ⟨⟨⟨⟨⟨⟨⟨⟨⟨⟨t1, t2⟩, t3⟩, t4⟩, t5⟩, t6⟩, t7⟩, t8⟩, t9⟩, _⟩, t10⟩ := h
  have xat : ∀ k e, G.excs[k]? = some e → excB prog G K (xaOf G K k) e = true := fun k e hk => by
    have := List.all_eq_true.mp t5 k (List.mem_range.mpr (List.getElem?_eq_some_iff.mp hk).1)
    rw [hk] at this
    exact this
  have noC : ∀ {k : Nat} {ci : ClsInfo}, G.clss[k]? = some ci → False := fun {k ci} hk => by
    rw [List.isEmpty_iff.mp t9] at hk
    simp at hk
  have noC' : ∀ {k : Nat}, k < G.clss.length → False := fun {k} hk => by
    rw [List.isEmpty_iff.mp t9] at hk
    simp at hk
  have xs : ∀ k e, G.excs[k]? = some e → XfC K (xaOf G K k) ∧ (PySem.W.clsIn K (xaOf G K k)).isSome = true ∧ PySem.W.findIn K (.ref (xaOf G K k)) "__class__" = some (some (.builtin "object.__class__")) ∧ PySem.W.mroIn K (xaOf G K k) (.type "object") = some true ∧ PySem.W.kitOne K (.ref (xaOf G K k)) (.type "ValueError") = some true ∧
      (∀ d, d < G.excs.length → PySem.W.kitOne K (.ref (xaOf G K k)) (.ref (xaOf G K d)) = some (e.up.contains d) ∧ PySem.W.exmOne K (.ref (xaOf G K k)) (.ref (xaOf G K d)) = some (e.up.contains d)) ∧
      (∀ f, e.field = some f → PySem.W.findIn K (.ref (xaOf G K k)) f = some none ∧ (("self" : Str) == f) = false ∧ (f == ("__debug__" : Str)) = false ∧ xcAllB prog K (xaOf G K k) (He.ma K (xaOf G K k) "__init__") f = true) := fun k e hk => by
    have z := xat k e hk
    unfold excB at z
    simp only [Bool.and_eq_true, decide_eq_true_eq] at z
    obtain ⟨⟨⟨⟨⟨⟨z1, z2⟩, z3⟩, z4⟩, z5⟩, z6⟩, z7⟩ := z
    refine ⟨xfB_ok z1, z2, He.eqO_ok z3, z4, z5, fun d hd => ?_, fun f hf => ?_⟩
    · have := List.all_eq_true.mp z6 d (List.mem_range.mpr hd)
      simpa only [Bool.and_eq_true, decide_eq_true_eq] using this
    · rw [hf] at z7
      simp only [Bool.and_eq_true, Bool.not_eq_true'] at z7
      exact ⟨He.eqO_ok z7.1.1.1, z7.1.1.2, z7.1.2, z7.2⟩
  constructor
  · refine ⟨fun x g hx => ?_, fun x hx hn => ?_, fun i fi hi => ?_, t3, t4, fun k e hk => ?_, fun k e f hk hf => ((xs k e hk).2.2.2.2.2.2 f hf).1, fun k e d hk hd => (xs k e hk).2.2.2.2.2.1 d hd, fun k e hk => (xs k e hk).2.2.2.2.1, fun k ci hk => (noC hk).elim, fun k ci f hk => (noC hk).elim, fun k ci m g hk => (noC hk).elim, fun k ci f g hk => (noC hk).elim, fun k ci d hk => (noC hk).elim, fun k ci n hk => (noC hk).elim, fun d n hd => (noC' hd).elim⟩
    · have z := List.all_eq_true.mp t1 (x, g) (PySem.mem_of_lookup hx)
      unfold nameB at z
      cases g with
      | fn i =>
        simp only [Bool.and_eq_true, decide_eq_true_eq] at z
        exact ⟨_, .ref (faOf srcs K i), PySem.W.mg_of X Gn (He.eqO_ok z.2), rfl, fun hid ex μ H => ⟨rfl, z.1⟩⟩
      | cls i =>
        simp only [Bool.and_eq_true, decide_eq_true_eq] at z
        exact ⟨_, .ref (caOf G K i), PySem.W.mg_of X Gn (He.eqO_ok z.2), rfl, fun hid ex μ H => ⟨rfl, z.1⟩⟩
      | xcls i =>
        simp only [Bool.and_eq_true, decide_eq_true_eq] at z
        exact ⟨_, .ref (xaOf G K i), PySem.W.mg_of X Gn (He.eqO_ok z.2), rfl, fun hid ex μ H => ⟨rfl, z.1⟩⟩
      | con v =>
        simp only at z
        split at z
        · rename_i u hu
          obtain ⟨w, r, q⟩ := conB_ok z
          exact ⟨u, w, PySem.W.mg_of X Gn hu, r, fun hid ex μ H => q _ μ H⟩
        · cases z
    · have z := List.all_eq_true.mp t2 x hx
      have hn : G.names.lookup x = none := hn
      rw [hn] at z
      exact PySem.W.mg_none_of X Gn (He.eqO_ok (by simpa using z))
    · have hi : G.fns[i]? = some fi := hi
      rw [hG, List.getElem?_map] at hi
      cases es : srcs[i]? with
      | none => rw [es] at hi; cases hi
      | some s =>
        show PySem.W.keepIn K (.ref (faOf srcs K i)) = true
        unfold faOf
        rw [es]
        exact hkeep i s es
    · obtain ⟨z1, z2, z3, z4, _⟩ := xs k e hk
      exact ⟨z1, z2, z3, z4⟩
  · intro k e f hk hf
    obtain ⟨_, y1, y2, y3⟩ := (xs k e hk).2.2.2.2.2.2 f hf
    exact ⟨_, f, xcAllB_ok y3 (He.eqO_ok t6) (PySem.W.mg_none_of X Gn (He.eqO_ok t7)) (by simpa using t8) y1 y2⟩

theorem src_fn {tf : List He.Defn} {h : Heap} {ex : PySem.W.Frag → Bool} (S : SaysZ (srcs.map FnSrc.defD) tf ex h K) {i : Nat} {s : FnSrc} (hs : srcs[i]? = some s) :
    PySem.W.keepIn K (.ref (He.fAd K s.at_)) = true ∧ ∃ (oc : Value) (od : Option Addr) (osl : Array (Option Value)) (kV doc pm : Value) (an : Option Addr) (c : Addr) (ct : Value),
      K.lookup (He.fAd K s.at_) = some ⟨oc, od, .func (PySem.W.fnOf s.nm s.qual (dArgs s.st) (dBody s.st) (dScope s.st) .none kV doc pm an (.ref c) ct), osl⟩ ∧ PySem.W.codeIn K (.ref c) s.qual = true ∧ He.codeOf K s.at_ = c := by
  obtain ⟨fd, F⟩ := S.def_ (i := i) (d := s.defD) (by rw [List.getElem?_map, hs]; rfl)
  obtain ⟨oc, od, dV, kV, doc, pm, an, cdv, ct, osl, e, lk, hc, hd, _⟩ := F.ex
  have hdv : dV = .none := by
    rcases hd with ⟨_, e⟩ | ⟨n, _⟩
    · exact e
    · exact absurd rfl n
  subst hdv
  obtain ⟨c, rfl⟩ := He.codeIn_ref hc
  subst e
  exact ⟨F.kp, oc, od, osl, kV, doc, pm, an, c, ct, lk, hc, He.codeOf_eq lk rfl⟩
def lamsOf (srcs : List FnSrc) : List He.Defn := (srcs.filter (·.lam)).map FnSrc.at_

def srcB (srcs : List FnSrc) : Bool := srcs.all fun s => scB s.N s.ps (dScope s.st) && plainPs (dArgs s.st) && decide ((dArgs s.st).args.map (·.arg) = s.ps)
theorem src_lam (h : txtB prog srcs G K = true) {s : FnSrc} (hm : s ∈ srcs) (hl : s.lam = true) {c : Addr} (hc : He.codeOf K s.at_ = c) (hT : ∀ p ∈ (lamsOf srcs).map (He.cT K), LamX.TabB base mg p.1 p.2) :
    ∃ c' P, LamX.TabB base mg c' P ∧ Value.ref c = .ref c' ∧ (P, s.qual ++ ".<locals>." ++ "<lambda>") ∈ (Rof srcs G K base).T ∧ ∀ p ∈ (Rof srcs G K base).T, p.1 = P → p.2 = s.qual ++ ".<locals>." ++ "<lambda>" := by
  have hmf : s ∈ srcs.filter (·.lam) := List.mem_filter.mpr ⟨hm, hl⟩
  have hm2 : He.cT K s.at_ ∈ (lamsOf srcs).map (He.cT K) := by
    unfold lamsOf
    rw [List.map_map]
    exact List.mem_map.mpr ⟨s, hmf, rfl⟩
  have T := hT _ hm2
  have e1 : (He.cT K s.at_).1 = c := hc
  refine ⟨c, (He.cT K s.at_).2, by rw [← e1]; exact T, rfl, List.mem_map.mpr ⟨s, hmf, rfl⟩, fun p hp e => ?_⟩
  obtain ⟨s', hs', rfl⟩ := List.mem_map.mp hp
  unfold txtB at h
  simp only [Bool.and_eq_true] at h
  have z := List.all_eq_true.mp (List.all_eq_true.mp h.2 s hmf) s' hs'
  simp only [Bool.or_eq_true, decide_eq_true_eq] at z
  rcases z with z | z
  · exact absurd e.symm z
  · show s'.qual ++ _ ++ _ = _
    rw [z]
theorem fntxt_of {tf : List He.Defn} {h : Heap} (hG : G.fns = srcs.map FnSrc.info) (S : SaysZ (srcs.map FnSrc.defD) tf (txtB prog srcs G) h K) (hB : srcB srcs = true) (hT : ∀ p ∈ (lamsOf srcs).map (He.cT K), LamX.TabB base mg p.1 p.2) :
    ∀ i fi, (Rof srcs G K base).G.fns[i]? = some fi → FnTxt (Rof srcs G K base) mg fi ((Rof srcs G K base).fa i) := by
  intro i fi hi
  have hi : G.fns[i]? = some fi := hi
  rw [hG, List.getElem?_map] at hi
  cases es : srcs[i]? with
  | none => rw [es] at hi; cases hi
  | some s =>
    rw [es] at hi
    cases hi
    obtain ⟨_, oc, od, osl, kV, doc, pm, an, c, ct, lk, hc, hco⟩ := src_fn S es
    have b := List.all_eq_true.mp hB s (List.mem_of_getElem? es)
    simp only [Bool.and_eq_true, decide_eq_true_eq] at b
    have ef : (Rof srcs G K base).fa i = He.fAd K s.at_ := by
      show faOf srcs K i = _
      unfold faOf
      rw [es]
    rw [ef]
    exact ⟨⟨oc, od, osl, kV, doc, pm, an, .ref c, ct, s.nm, s.qual, dArgs s.st, lk, hc, b.1.2, b.2, fun hl => src_lam S.more (List.mem_of_getElem? es) hl hco hT⟩, scB_ok b.1.1⟩

theorem law_end {l : PySem.W.OpenLaw} {w : World} {n li : Nat} {sl : FnSrc} {fa : Addr} {h : Heap} (hp : l.prog = prog) (X : K.In h) (Gn : h.Ns mainGlobals mg) (hG : G.fns = srcs.map FnSrc.info) (hB : srcB srcs = true) (hmg : mg "law" = some (.ref fa)) (S : SaysZ (srcs.map FnSrc.defD) (lamsOf srcs) (txtB prog srcs G) h K)
    (hls : srcs[li]? = some sl) (hln : G.names.lookup ("law" : Str) = some (.fn li)) (hps : sl.ps = [("script" : Str)]) (hcl : ∀ p ∈ (lamsOf srcs).map (He.cT K), PySem.W.CodeHd h p.1 p.2)
    (law : ∀ ns : List Int, ns.length ≤ 63 → (∀ z ∈ ns, Builtin.Int.intBits z ≤ 1048576) → callN G (n + 1) (.fn li) [.lst (ns.map AV.int)] [] = .ok (.bl true) []) :
    LamX.LawAtS l w K (L2.CX l.prog w) (n + 1) 63 "script" mg fa h := by
  subst hp
  obtain ⟨hkp, oc, od, osl, kV, doc, pm, an, c, ct, lk, hc, hco⟩ := src_fn S hls
  have efa : fa = He.fAd K sl.at_ := by
    have t1 := S.more
    unfold txtB at t1
    simp only [Bool.and_eq_true] at t1
    have z := List.all_eq_true.mp t1.1.1.1.1.1.1.1.1.1.1 ("law", .fn li) (PySem.mem_of_lookup hln)
    unfold nameB at z
    simp only [Bool.and_eq_true] at z
    have e := PySem.W.mg_of X Gn (He.eqO_ok z.2)
    rw [hmg] at e
    have : fa = faOf srcs K li := by
      have := Option.some.inj e
      cases this
      rfl
    rw [this]
    unfold faOf
    rw [hls]
  have b := List.all_eq_true.mp hB sl (List.mem_of_getElem? hls)
  simp only [Bool.and_eq_true, decide_eq_true_eq] at b
  have hbind : ∀ (s : Shared) (u : Value), BindsTo s (PySem.W.fnOf sl.nm sl.qual (dArgs sl.st) (dBody sl.st) (dScope sl.st) .none kV doc pm an (.ref c) ct) ⟨[u], []⟩ [("script", u)] := fun s u => by
    have := bind_all (fd := PySem.W.fnOf sl.nm sl.qual (dArgs sl.st) (dBody sl.st) (dScope sl.st) .none kV doc pm an (.ref c) ct) (ps := [("script" : Str)]) (us := [u]) b.1.2 (by rw [← hps]; exact b.2) rfl (by simp) rfl
    exact .of_eq this
  refine ⟨_, (lamsOf srcs).map (He.cT K), fun vs H Q E => ∃ (a : Addr) (ns : List Int), vs = [.ref a] ∧ SqL K H a (ns.map V.int) ∧ ns.length ≤ 63 ∧ (∀ z ∈ ns, Builtin.Int.intBits z ≤ 1048576) ∧ (∀ p ∈ (lamsOf srcs).map (He.cT K), H p.2 = some (.tbl #[])) ∧ (∀ H', Q (.bl true) H'), fun p hp => ?_, fun p hp => ?_, hcl, hbind,
    fun H a ns h1 h2 h3 h4 => ⟨a, ns, rfl, h4, h1, h2, h3, fun _ => rfl⟩, fun base hK hNs hT => ?_⟩
  · obtain ⟨q, hq, rfl⟩ := List.mem_map.mp hp
    exact S.empty q hq
  · obtain ⟨q, hq, rfl⟩ := List.mem_map.mp hp
    exact S.out q hq
  have hkeep : ∀ (i : Nat) (s : FnSrc), srcs[i]? = some s → PySem.W.keepIn K (.ref (He.fAd K s.at_)) = true := fun i s hs => (src_fn S hs).1
  obtain ⟨F, XO⟩ := facts_of (base := base) hK hNs hG hkeep S.more
  have FT := fntxt_of (base := base) hG S hB hT
  have CA : CallsAt (Rof srcs G K base) l.prog w mg (callN G n) n := calls_all F FT rfl XO n
  have efi : (Rof srcs G K base).fa li = fa := by
    rw [efa]
    show faOf srcs K li = _
    unfold faOf
    rw [hls]
  have hfi : (Rof srcs G K base).G.fns[li]? = some sl.info := by
    show G.fns[li]? = _
    rw [hG, List.getElem?_map, hls]
    rfl
  have R := fn_succ F rfl XO CA hfi (scB_ok b.1.1) (oc := oc) (od := od) (osl := osl) (kV := kV) (doc := doc) (pm := pm) (an := an) (cdv := .ref c) (ct := ct) (name := sl.nm) (qual := sl.qual) (params := dArgs sl.st) (by rw [efi, efa]; exact lk) hc (fun hl => src_lam S.more (List.mem_of_getElem? hls) hl hco hT)
  rw [efi] at R
  have R : FnOk l.prog w K mg base (L2.CX l.prog w) (n + 1) fa (PySem.W.fnOf sl.nm sl.qual (dArgs sl.st) (dBody sl.st) (dScope sl.st) .none kV doc pm an (.ref c) ct) [("script" : Str)] (spF (Rof srcs G K base) (callN G (n + 1) (.fn li)) sl.info.ps.length) := by
    have e : sl.info.ps = [("script" : Str)] := hps
    rw [← e]
    exact R
  refine R.imp fun vs H Q E ⟨a, ns, e, hS, h1, h2, h3, hQ⟩ => ?_
  subst e
  have hRd : Rd H a (.lst (ns.map V.int)) := by
    have t1 := S.more
    unfold txtB at t1
    simp only [Bool.and_eq_true] at t1
    exact noLst_ok t1.1.2 hS
  refine ⟨[], [], [], [.lst (ns.map AV.int)], ⟨rfl, List.nodup_nil, fun i o a z => by simp at z, fun p hp => ?_, fun a z => by cases z⟩, ⟨_, [], rfl, ⟨a, _, rfl, hRd, ⟨by simp, by simp⟩, ?_⟩, rfl⟩, ?_, ?_⟩
  · obtain ⟨s, hs, rfl⟩ := List.mem_map.mp hp
    exact LamX.TabS.nil (h3 _ (by
      unfold lamsOf
      rw [List.map_map]
      exact List.mem_map.mpr ⟨s, hs, rfl⟩))
  · clear hS h1 h2 hRd
    induction ns with
    | nil => rfl
    | cons z r ih => exact ⟨_, _, rfl, rfl, ih⟩
  · show 1 = sl.ps.length
    rw [hps]
    rfl
  · show Post _ _ _ _ _ (callN G (n + 1) (.fn li) [.lst (ns.map AV.int)] []) Q
    rw [law ns h1 h2]
    intro μ' H' v _ _ rv
    rw [show v = .bl true from rv]
    exact hQ H'
end
end Tp
end
section
set_option linter.all false
set_option maxRecDepth 100000

namespace Tp
open PySem

def lamsE : Nat → Expr → List (Nat × Nat × LamInfo)
  | 0, _ => []
  | n + 1, e => match e with
    | .Lambda a b s p => [(p.line, p.col, lamOf a b s)]
    | .BoolOp _ es _ => es.flatMap (lamsE n)
    | .BinOp a _ b _ => lamsE n a ++ lamsE n b
    | .UnaryOp _ a _ => lamsE n a
    | .IfExp t a b _ => lamsE n t ++ lamsE n a ++ lamsE n b
    | .Compare a _ bs _ => lamsE n a ++ bs.flatMap (lamsE n)
    | .Call f args kws _ => lamsE n f ++ args.flatMap (lamsE n) ++ kws.flatMap fun k => lamsE n k.value
    | .Tuple es _ _ => es.flatMap (lamsE n)
    | .List es _ => es.flatMap (lamsE n)
    | .Subscript a b _ => lamsE n a ++ lamsE n b
    | .Attribute a _ _ => lamsE n a
    | .Starred a _ => lamsE n a
    | .ListComp e gs _ _ => lamsE n e ++ gs.flatMap fun g => lamsE n g.iter ++ g.ifs.flatMap (lamsE n)
    | _ => []
def lamsS : Nat → Stmt → List (Nat × Nat × LamInfo)
  | 0, _ => []
  | n + 1, st => match st with
    | .Expr e _ => lamsE 40 e
    | .Return (some e) _ => lamsE 40 e
    | .Assign _ e _ => lamsE 40 e
    | .If t a b _ => lamsE 40 t ++ a.flatMap (lamsS n) ++ b.flatMap (lamsS n)
    | .For _ it a b _ => lamsE 40 it ++ a.flatMap (lamsS n) ++ b.flatMap (lamsS n)
    | .While t a b _ => lamsE 40 t ++ a.flatMap (lamsS n) ++ b.flatMap (lamsS n)
    | .Raise (some e) _ _ => lamsE 40 e
    | .Try a hs b d _ => a.flatMap (lamsS n) ++ hs.flatMap fun h => match h with
        | .ExceptHandler _ _ u _ => u.flatMap (lamsS n)
    | _ => []
def noLam : LamInfo := lamOf ⟨[], [], none, [], [], none, []⟩ (.Constant .none 0 ⟨0, 0, 0, 0⟩) ⟨.module, [], false, false, []⟩
def lamAt (st : Stmt) (l c : Nat) : LamInfo := match ((dBody st).flatMap (lamsS 40)).find? fun q => q.1 == l && q.2.1 == c with
  | some q => q.2.2
  | none => noLam
end Tp
end
section
set_option linter.all false
set_option maxRecDepth 100000

namespace Tp
open PySem

def kd : AV → Bool
  | .non | .bl _ | .int _ | .str _ | .tup _ | .lst _ => true
  | _ => false
theorem isInst_ty {G : Glob} {x : AV} (hx : kd x = true) {n : String} (hn : tyNames.contains n = true) (h : AHp) : isInst G x (.ty n) h = .ok (.bl (isTy x n)) h := by
  cases x <;> first | (simp [kd] at hx; done) | (simp only [isInst, hn, if_true])

mutual
theorem AV.pure_frz {h : AHp} {n0 : Nat} : ∀ {v : AV}, v.pure = true → v.frz h n0 = v
  | .non, _ | .bl _, _ | .int _, _ | .str _, _ | .fn _, _ | .cls _, _ | .xcls _, _ | .ty _, _ | .obj _ _, _ | .dct _, _ => rfl
  | .ref _, h | .clo _ _, h | .exc _ _, h => by cases h
  | .tup xs, h => congrArg AV.tup (AV.pureAll_frz (xs := xs) h)
  | .lst xs, h => congrArg AV.lst (AV.pureAll_frz (xs := xs) h)
theorem AV.pureAll_frz {h : AHp} {n0 : Nat} : ∀ {xs : List AV}, AV.pureAll xs = true → AV.frzAll h n0 xs = xs
  | [], _ => rfl
  | x :: r, hp => by
    simp only [AV.pureAll, Bool.and_eq_true] at hp
    simp only [AV.frzAll, AV.pure_frz hp.1, AV.pureAll_frz hp.2]
end
mutual
theorem AV.pure_old {n0 : Nat} : ∀ {v : AV}, v.pure = true → v.old n0 = true
  | .non, _ | .bl _, _ | .int _, _ | .str _, _ | .fn _, _ | .cls _, _ | .xcls _, _ | .ty _, _ => rfl
  | .ref _, h | .clo _ _, h | .exc _ _, h => by cases h
  | .tup xs, h => AV.pureAll_old (xs := xs) h
  | .lst xs, h => AV.pureAll_old (xs := xs) h
  | .obj _ fs, h => h
  | .dct _, h => h
theorem AV.pureAll_old {n0 : Nat} : ∀ {xs : List AV}, AV.pureAll xs = true → AV.oldAll n0 xs = true
  | [], _ => rfl
  | x :: r, hp => by
    simp only [AV.pureAll, Bool.and_eq_true] at hp
    simp only [AV.oldAll, AV.pure_old hp.1, AV.pureAll_old hp.2, Bool.and_self]
end
theorem back_pure {keep : Bool} {n0 : Nat} {v : AV} {h : AHp} (hv : v.pure = true) : back keep n0 v h = .ok v (h.take n0) := by
  have e : back keep n0 v h = if (v.frz h n0).old n0 then .ok (v.frz h n0) (h.take n0) else .stuck := by
    cases keep
    · rfl
    · cases v <;> first | rfl | (cases hv)
  rw [e, AV.pure_frz hv, AV.pure_old hv, if_pos rfl]
theorem take_len {h : AHp} : h.take h.length = h := List.take_length

theorem fn_ok {keep : Bool} {np n : Nat} {d : DS} {args : List AV} {h h1 : AHp} {v : AV} (hl : args.length = np) (e : d (startA n args) h = .rt v h1) (hv : v.pure = true) (hh : h1.take h.length = h) : callFn keep np n d args h = .ok v h := by
  unfold callFn
  rw [if_pos hl, e]
  simp only [back_pure hv, hh]
theorem fn_ok' {keep : Bool} {np n : Nat} {d : DS} {args : List AV} {h : AHp} {v : AV} (hl : args.length = np) (e : d (startA n args) h = .rt v h) (hv : v.pure = true) : callFn keep np n d args h = .ok v h := fn_ok hl e hv take_len

theorem fn_okH {keep : Bool} {np n : Nat} {d : DS} {args : List AV} {h h1 : AHp} {v : AV} (hl : args.length = np) (e : d (startA n args) h = .rt v h1) (hv : v.pure = true) (hh : h1.length = h.length) : callFn keep np n d args h = .ok v h1 := by
  unfold callFn
  rw [if_pos hl, e]
  simp only [back_pure hv]
  rw [← hh, take_len]
theorem fn_okN {keep : Bool} {np n : Nat} {d : DS} {args : List AV} {h : AHp} {env : AEnv} (hl : args.length = np) (e : d (startA n args) h = .nx env h) : callFn keep np n d args h = .ok .non h := by
  unfold callFn
  rw [if_pos hl, e]
  simp only [back_pure (v := .non) rfl, take_len]

theorem fn_exc {keep : Bool} {np n c : Nat} {d : DS} {args : List AV} {h : AHp} {env : AEnv} {x : AV} (hl : args.length = np) (e : d (startA n args) h = .exc c x env h) (hx : x.pure = true) : callFn keep np n d args h = .exc c x h := by
  unfold callFn
  rw [if_pos hl, e]
  simp only [backX, AV.pure_frz hx, hx, if_true, take_len]

theorem fn_new {np n : Nat} {d : DS} {args : List AV} {h : AHp} {o : AObj} (hl : args.length = np) (e : d (startA n args) h = .rt (.ref h.length) (h ++ [o])) : callFn true np n d args h = .ok (.ref h.length) (h ++ [o]) := by
  unfold callFn
  rw [if_pos hl, e]
  simp [back]
theorem clo_ok {np nown : Nat} {d : DE} {cs : List (Option AV)} {args : List AV} {h : AHp} {v : AV} (hl : args.length = np) (ha : AV.noCs args = true) (hc : AV.noCo cs = true) (e : d (args.map some ++ (cs ++ List.replicate nown none)) h = .ok v h) (hv : v.pure = true) : callClo np nown d cs args h = .ok v h := by
  unfold callClo
  rw [if_pos ⟨hl, ha, hc⟩, e]
  simp only [back_pure hv, take_len]
theorem clo_exc {np nown c : Nat} {d : DE} {cs : List (Option AV)} {args : List AV} {h : AHp} {x : AV} (hl : args.length = np) (ha : AV.noCs args = true) (hc : AV.noCo cs = true) (e : d (args.map some ++ (cs ++ List.replicate nown none)) h = .exc c x h) (hv : x.pure = true) : callClo np nown d cs args h = .exc c x h := by
  unfold callClo
  rw [if_pos ⟨hl, ha, hc⟩, e]
  simp only [backX, AV.pure_frz hv, hv, if_true, take_len]

def ints' (l : List Int) : List AV := l.map AV.int
theorem ints_pure : ∀ l : List Int, AV.pureAll (ints' l) = true
  | [] => rfl
  | z :: r => by
    show (AV.pure (.int z) && AV.pureAll (ints' r)) = true
    rw [ints_pure r]
    rfl
theorem ints_noC : ∀ l : List Int, AV.noCs (ints' l) = true
  | [] => rfl
  | z :: r => by
    show (AV.noC (.int z) && AV.noCs (ints' r)) = true
    rw [ints_noC r]
    rfl
theorem ints_len (l : List Int) : (ints' l).length = l.length := List.length_map ..
theorem tup_pure (l : List Int) : (AV.tup (ints' l)).pure = true := ints_pure l
theorem ints_app (a b : List Int) : ints' a ++ ints' b = ints' (a ++ b) := (List.map_append ..).symm
theorem ints_take (a : List Int) (k : Nat) : (ints' a).take k = ints' (a.take k) := (List.map_take ..).symm
theorem ints_drop (a : List Int) (k : Nat) : (ints' a).drop k = ints' (a.drop k) := (List.map_drop ..).symm

def octs (l : List Int) : Bool := l.all fun z => decide (0 ≤ z) && decide (z ≤ 255)
end Tp
end
section
set_option linter.all false
set_option maxRecDepth 100000

namespace Tp
open PySem
def Res.thn {α β : Type} (r : Res α) (k : α → AHp → Res β) : Res β := match r with
  | .ok a h => k a h
  | .exc c x h => .exc c x h
  | .stuck => .stuck
def Out.thn (o : Out) (k : AEnv → AHp → Out) : Out := match o with
  | .nx env h => k env h
  | o => o
section
variable {α β : Type} {env : AEnv} {h h1 : AHp} {v w u : AV} {a b d : DE} {s t : DT} {k : α → AHp → Res β} {i j : Int} {x : AV} {c : Nat} {m : M α} {kk : α → M β}
theorem thn_ok {y : α} : (Res.ok y h).thn k = k y h := rfl
theorem thn_exc : (Res.exc c x h : Res α).thn k = .exc c x h := rfl
theorem thn_stuck : (Res.stuck : Res α).thn k = .stuck := rfl
theorem bind_eq : Tp.bind m kk h = (m h).thn fun y h1 => kk y h1 := rfl
theorem ret_at {y : α} : ret y h = .ok y h := rfl
theorem val_eq : eVal v env h = .ok v h := rfl
theorem var_eq {n : Nat} : eVar n env h = (match env[n]? with
  | some (some v) => .ok v h
  | _ => .stuck) := by
  unfold eVar
  cases e : env[n]? with
  | none => rfl
  | some o => cases o <;> rfl
theorem bin_eq {op : Operator} : eBin op a b env h = (a env h).thn fun x h1 => (b env h1).thn fun y h2 => opBin op x y h2 := rfl
theorem cmp_eq {op : CmpOp} : eCmp op a b env h = (a env h).thn fun x h1 => (b env h1).thn fun y h2 => opCmp op x y h2 := rfl
def asBR (r : Res AV) : Res Bool := match r with
  | .ok (.bl b) h => .ok b h
  | .ok _ _ => .stuck
  | .exc c x h => .exc c x h
  | .stuck => .stuck
theorem asBR_bl {b : Bool} : asBR (.ok (.bl b) h) = .ok b h := rfl
theorem tB_eq : tB a env h = asBR (a env h) := by
  show (a env h).thn (fun v h1 => asB v h1) = _
  cases a env h with
  | ok v h1 => cases v <;> rfl
  | exc c x h1 => rfl
  | stuck => rfl
theorem chain_eq {op op' : CmpOp} : eChain op op' a b d env h = (a env h).thn fun x h1 => (b env h1).thn fun y h2 => (asBR (opCmp op x y h2)).thn fun r h3 => if r then (d env h3).thn fun z h4 => opCmp op' y z h4 else .ok (.bl false) h3 := by
  show (a env h).thn (fun x h1 => (b env h1).thn fun y h2 => (opCmp op x y h2).thn fun r h3 => (match r with
    | .bl true => Tp.bind (d env) fun z => opCmp op' y z
    | .bl false => ret (.bl false)
    | _ => fail) h3) = _
  congr 1
  funext x h1
  congr 1
  funext y h2
  cases opCmp op x y h2 with
  | ok v h1 => cases v <;> first | rfl | (rename_i b; cases b <;> rfl)
  | exc c x h1 => rfl
  | stuck => rfl
theorem tTruth_eq : tTruth a env h = (a env h).thn fun x h1 => truth x h1 := rfl
theorem truth_bl {b : Bool} : truth (.bl b) h = .ok b h := rfl
theorem tNot_eq : tNot s env h = (s env h).thn fun b h1 => .ok (!b) h1 := rfl
theorem tAnd_nil : tAnd [] env h = .ok true h := rfl
theorem tAnd_cons {r : List DT} : tAnd (s :: r) env h = (s env h).thn fun b h1 => if b then tAnd r env h1 else .ok false h1 := by
  show (s env h).thn (fun b h1 => (if b then tAnd r env else ret false) h1) = _
  congr 1; funext b h1; cases b <;> rfl
theorem tOr_nil : tOr [] env h = .ok false h := rfl
theorem tOr_cons {r : List DT} : tOr (s :: r) env h = (s env h).thn fun b h1 => if b then .ok true h1 else tOr r env h1 := by
  show (s env h).thn (fun b h1 => (if b then ret true else tOr r env) h1) = _
  congr 1; funext b h1; cases b <;> rfl
theorem eAnd_one : eAnd [a] env h = a env h := rfl
theorem eAnd_cons {r : List DE} : eAnd (a :: b :: r) env h = (a env h).thn fun v h1 => (truth v h1).thn fun c h2 => if c then eAnd (b :: r) env h2 else .ok v h2 := by
  show (a env h).thn (fun v h1 => (truth v h1).thn fun c h2 => (if c then eAnd (b :: r) env else ret v) h2) = _
  congr 1; funext v h1; congr 1; funext c h2; cases c <;> rfl
theorem eOr_one : eOr [a] env h = a env h := rfl
theorem eOr_cons {r : List DE} : eOr (a :: b :: r) env h = (a env h).thn fun v h1 => (truth v h1).thn fun c h2 => if c then .ok v h2 else eOr (b :: r) env h2 := by
  show (a env h).thn (fun v h1 => (truth v h1).thn fun c h2 => (if c then ret v else eOr (b :: r) env) h2) = _
  congr 1; funext v h1; congr 1; funext c h2; cases c <;> rfl
theorem eNot_eq : eNot a env h = (a env h).thn fun v h1 => (truth v h1).thn fun b h2 => .ok (.bl !b) h2 := rfl
theorem eIf_eq : eIf s a b env h = (s env h).thn fun c h1 => if c then a env h1 else b env h1 := by
  show (s env h).thn (fun c h1 => (if c then a env else b env) h1) = _
  congr 1; funext c h1; cases c <;> rfl
theorem tIf_eq {s1 s2 : DT} : tIf s s1 s2 env h = (s env h).thn fun c h1 => if c then s1 env h1 else s2 env h1 := by
  show (s env h).thn (fun c h1 => (if c then s1 env else s2 env) h1) = _
  congr 1; funext c h1; cases c <;> rfl
theorem aNil_eq : aNil env h = .ok [] h := rfl
theorem aCons_eq {r : DA} : aCons a r env h = (a env h).thn fun x h1 => (r env h1).thn fun xs h2 => .ok (x :: xs) h2 := rfl
theorem aStar_eq {r : DA} : aStar a r env h = (a env h).thn fun x h1 => (seqOf x h1).thn fun ys h2 => (r env h2).thn fun xs h3 => .ok (ys ++ xs) h3 := rfl
theorem eTup_eq {r : DA} : eTup r env h = (r env h).thn fun xs h1 => if xs.length ≤ SL then .ok (.tup xs) h1 else .stuck := by
  show (r env h).thn (fun xs h1 => (if xs.length ≤ SL then ret (AV.tup xs) else fail) h1) = _
  congr 1; funext xs h1; split <;> rfl
theorem eLst_eq {r : DA} : eLst r env h = (r env h).thn fun xs h1 => if xs.length ≤ SL then .ok (.lst xs) h1 else .stuck := by
  show (r env h).thn (fun xs h1 => (if xs.length ≤ SL then ret (AV.lst xs) else fail) h1) = _
  congr 1; funext xs h1; split <;> rfl
theorem eNew_eq {r : DA} : eNew r env h = (r env h).thn fun xs h1 => if xs.length ≤ SL ∧ AV.pureAll xs = true then .ok (.ref h1.length) (h1 ++ [.lst xs]) else .stuck := rfl
theorem eIx_eq : eIx a b env h = (a env h).thn fun x h1 => (b env h1).thn fun y h2 => index x y h2 := rfl
theorem pNo_eq : pNo env h = .ok none h := rfl
theorem pAt_eq : pAt a env h = (a env h).thn fun v h1 => (match v with
  | .int i => .ok (some i) h1
  | _ => .stuck) := by
  show (a env h).thn (fun v h1 => (match v with
    | .int i => ret (some i)
    | _ => fail) h1) = _
  congr 1; funext v h1; cases v <;> rfl
theorem eSl_eq {lo hi : DP} : eSl a lo hi env h = (a env h).thn fun x h1 => (lo env h1).thn fun l h2 => (hi env h2).thn fun u h3 => slice x l u h3 := rfl
theorem eCall_eq {cl : Calls} {n : Nat} {r : DA} : eCall cl n r env h = (r env h).thn fun xs h1 => cl (.fn n) xs h1 := rfl
theorem eCallK_eq {cl : Calls} {n : Nat} {ps ks : List Str} {r q : DA} : eCallK cl n ps ks r q env h = (r env h).thn fun xs h1 => (q env h1).thn fun ys h2 => (match order ps ks xs ys with
  | some zs => cl (.fn n) zs h2
  | none => .stuck) := by
  show (r env h).thn (fun xs h1 => (q env h1).thn fun ys h2 => (match order ps ks xs ys with
    | some zs => cl (.fn n) zs
    | none => fail) h2) = _
  congr 1; funext xs h1; congr 1; funext ys h2; cases order ps ks xs ys <;> rfl
theorem eCallL_eq {cl : Calls} {n : Nat} {l : LamInfo} {fr : List Nat} {r : DA} : eCallL cl n l fr r env h = (r env h).thn fun xs h1 => chkC (cl (.fn n) (xs ++ [.clo l (caps env fr)]) h1) := rfl
theorem eCallV_clo {cl : Calls} {r : DA} {l : LamInfo} {cs : List (Option AV)} (e : a env h = .ok (.clo l cs) h1) : eCallV cl a r env h = (r env h1).thn fun xs h2 => cl (.clo l cs) xs h2 := by
  show (a env h).thn (fun v h1 => applyV cl (r env) v h1) = _
  rw [e]
  rfl
theorem eBlt_eq {G : Glob} {f : BF} {r : DA} : eBlt G f r env h = (r env h).thn fun xs h1 => builtin G f xs h1 := rfl
theorem eMeth_eq {f : MF} {r : DA} : eMeth f a r env h = (a env h).thn fun v h1 => (lstOf v h1).thn fun _ h2 => (r env h2).thn fun xs h3 => meth f v xs h3 := rfl
theorem eAttrX_eq {G : Glob} {f : Str} : eAttrX G f a env h = (a env h).thn fun v h1 => attrX G f v h1 := rfl

theorem add_int : opBin .Add (.int i) (.int j) h = .ok (.int (i + j)) h := rfl
theorem sub_int : opBin .Sub (.int i) (.int j) h = .ok (.int (i - j)) h := rfl
theorem mul_int : opBin .Mult (.int i) (.int j) h = if small64 i || small64 j then .ok (.int (i * j)) h else .stuck := by
  show (if small64 i || small64 j then ret (AV.int (i * j)) else fail) h = _
  split <;> rfl
theorem mod_int : opBin .Mod (.int i) (.int j) h = if 0 < j then .ok (.int (i % j)) h else .stuck := by
  show (if 0 < j then ret (AV.int (i % j)) else fail) h = _
  split <;> rfl
theorem fdiv_int : opBin .FloorDiv (.int i) (.int j) h = if 0 < j ∧ j < 1073741824 then .ok (.int (i / j)) h else .stuck := by
  show (if 0 < j ∧ j < 1073741824 then ret (AV.int (i / j)) else fail) h = _
  split <;> rfl
theorem pow_int : opBin .Pow (.int i) (.int j) h = if 0 ≤ j ∧ j ≤ 1000000 ∧ i.natAbs < 2 ^ 64 then .ok (.int (i ^ j.toNat)) h else .stuck := by
  show (if 0 ≤ j ∧ j ≤ 1000000 ∧ i.natAbs < 2 ^ 64 then ret (AV.int (i ^ j.toNat)) else fail) h = _
  split <;> rfl
theorem add_tup {xs ys : List AV} (hl : xs.length + ys.length ≤ SL) : opBin .Add (.tup xs) (.tup ys) h = .ok (.tup (xs ++ ys)) h := by
  show (if xs.length + ys.length ≤ SL then ret (AV.tup (xs ++ ys)) else fail) h = _
  rw [if_pos hl]
  rfl
theorem lt_int : opCmp .Lt (.int i) (.int j) h = .ok (.bl (decide (i < j))) h := rfl
theorem le_int : opCmp .LtE (.int i) (.int j) h = .ok (.bl (decide (i ≤ j))) h := rfl
theorem gt_int : opCmp .Gt (.int i) (.int j) h = .ok (.bl (decide (j < i))) h := rfl
theorem ge_int : opCmp .GtE (.int i) (.int j) h = .ok (.bl (decide (j ≤ i))) h := rfl
theorem eq_dat {x y : AV} (hx : x.dat DD = true) (hy : y.dat DD = true) : opCmp .Eq x y h = .ok (.bl (x.eqv y)) h := by
  have ex : ∀ {z : AV}, z.dat DD = true → deref z h = .ok z h := fun {z} hz => by cases z <;> first | rfl | (cases hz)
  show ((deref x h).thn fun x h1 => (deref y h1).thn fun y h2 => (if x.dat DD && y.dat DD then ret (AV.bl (x.eqv y)) else fail) h2) = _
  rw [ex hx]
  show ((deref y h).thn fun y h2 => (if x.dat DD && y.dat DD then ret (AV.bl (x.eqv y)) else fail) h2) = _
  rw [ex hy]
  show (if x.dat DD && y.dat DD then ret (AV.bl (x.eqv y)) else fail) h = _
  rw [hx, hy]
  rfl
theorem ne_dat {x y : AV} (hx : x.dat DD = true) (hy : y.dat DD = true) : opCmp .NotEq x y h = .ok (.bl (!x.eqv y)) h := by
  have ex : ∀ {z : AV}, z.dat DD = true → deref z h = .ok z h := fun {z} hz => by cases z <;> first | rfl | (cases hz)
  show ((deref x h).thn fun x h1 => (deref y h1).thn fun y h2 => (if x.dat DD && y.dat DD then ret (AV.bl (!x.eqv y)) else fail) h2) = _
  rw [ex hx]
  show ((deref y h).thn fun y h2 => (if x.dat DD && y.dat DD then ret (AV.bl (!x.eqv y)) else fail) h2) = _
  rw [ex hy]
  show (if x.dat DD && y.dat DD then ret (AV.bl (!x.eqv y)) else fail) h = _
  rw [hx, hy]
  rfl
theorem eq_int : opCmp .Eq (.int i) (.int j) h = .ok (.bl (i == j)) h := eq_dat rfl rfl
theorem ne_int : opCmp .NotEq (.int i) (.int j) h = .ok (.bl (!(i == j))) h := ne_dat rfl rfl
theorem eq_bl {p q : Bool} : opCmp .Eq (.bl p) (.bl q) h = .ok (.bl (p == q)) h := eq_dat rfl rfl
theorem is_bl {p q : Bool} : opCmp .Is (.bl p) (.bl q) h = .ok (.bl (p == q)) h := rfl
def isNon : AV → Bool
  | .non => true
  | _ => false
theorem is_non : opCmp .Is x .non h = .ok (.bl (isNon x)) h := by cases x <;> rfl
theorem notBl {b : Bool} : notV (.bl b) h = .ok (.bl !b) h := rfl
theorem isnot_non : opCmp .IsNot x .non h = .ok (.bl !(isNon x)) h := by cases x <;> rfl

theorem oo_ok {y : α} {kq : α → AHp → Out} : outOf (.ok y h) env kq = kq y h := rfl
theorem oo_exc {kq : α → AHp → Out} : outOf (.exc c x h : Res α) env kq = .exc c x env h := rfl
theorem on_nx {kq : AEnv → AHp → Out} : (Out.nx env h).thn kq = kq env h := rfl
theorem on_rt {kq : AEnv → AHp → Out} : (Out.rt v h).thn kq = .rt v h := rfl
theorem on_exc {kq : AEnv → AHp → Out} : (Out.exc c x env h).thn kq = .exc c x env h := rfl
theorem ss_nil : sSeqs [] env h = .nx env h := rfl
theorem ss_cons {q : DS} {r : List DS} : sSeqs (q :: r) env h = (q env h).thn fun e1 h1 => sSeqs r e1 h1 := by
  show sSeq q (sSeqs r) env h = _
  unfold sSeq Out.thn
  cases q env h <;> rfl
theorem ss_one {q : DS} : sSeqs [q] env h = q env h := by
  rw [ss_cons]
  cases q env h <;> rfl
theorem sRet_eq : sRet a env h = outOf (a env h) env fun v h1 => .rt v h1 := rfl
theorem sDrop_eq : sDrop a env h = outOf (a env h) env fun _ h1 => .nx env h1 := rfl
theorem sAsg_name {n : Nat} : sAsg a (gName n) env h = outOf (a env h) env fun v h1 => .nx (env.set n (some v)) h1 := rfl
theorem sAsg_eq {g : DG} : sAsg a g env h = outOf (a env h) env fun v h1 => (match g v env h1 with
  | some (env', h'') => .nx env' h''
  | none => .stuck) := rfl
theorem sIf_eq {q r : DS} : sIf s q r env h = outOf (s env h) env fun c h1 => if c then q env h1 else r env h1 := rfl
theorem sPar_eq {is : List Nat} {r : DA} : sPar is r env h = outOf (r env h) env fun vs h1 => (match setAll is vs env with
  | some env' => .nx env' h1
  | none => .stuck) := rfl
theorem sRaise_eq {n : Nat} {r : DA} : sRaise n r env h = outOf (r env h) env fun vs h1 => (match vs with
  | [x] => .exc n x env h1
  | _ => .stuck) := rfl
theorem sFor_items {it : DI} {g : DG} {q : DS} {xs : List AV} (e : it env h = .ok (.items xs) h1) : sFor it g q env h = forL g q xs env h1 := by
  show outOf (it env h) env _ = _
  rw [e]
  rfl
theorem sFor_live {it : DI} {g : DG} {q : DS} {n : Nat} (e : it env h = .ok (.live n) h1) : sFor it g q env h = forR g q n LF 0 env h1 := by
  show outOf (it env h) env _ = _
  rw [e]
  rfl
def turn (o : Out) (k : AEnv → AHp → Out) : Out := match o with
  | .nx env2 h2 => k env2 h2
  | .ct env2 h2 => k env2 h2
  | .bk env2 h2 => .nx env2 h2
  | o => o
theorem forL_nil {g : DG} {q : DS} : forL g q [] env h = .nx env h := rfl
theorem forL_cons {g : DG} {q : DS} {y : AV} {r : List AV} : forL g q (y :: r) env h = (match g y env h with
  | none => Out.stuck
  | some (env1, h1) => turn (q env1 h1) fun e2 h2 => forL g q r e2 h2) := by
  show (match g y env h with
    | none => Out.stuck
    | some (env1, h1) => (match q env1 h1 with
      | .nx env2 h2 => forL g q r env2 h2
      | .ct env2 h2 => forL g q r env2 h2
      | .bk env2 h2 => .nx env2 h2
      | o => o)) = _
  cases g y env h with
  | none => rfl
  | some p =>
    obtain ⟨e1, h1⟩ := p
    show (match q e1 h1 with
      | .nx env2 h2 => forL g q r env2 h2
      | .ct env2 h2 => forL g q r env2 h2
      | .bk env2 h2 => .nx env2 h2
      | o => o) = turn (q e1 h1) _
    unfold turn
    cases q e1 h1 <;> rfl
theorem turn_nx {kq : AEnv → AHp → Out} : turn (.nx env h) kq = kq env h := rfl
theorem turn_rt {kq : AEnv → AHp → Out} : turn (.rt v h) kq = .rt v h := rfl
theorem turn_exc {kq : AEnv → AHp → Out} : turn (.exc c x env h) kq = .exc c x env h := rfl
theorem gName_eq {n : Nat} : Tp.gName n v env h = some (env.set n (some v), h) := rfl
theorem gTup_tup {gs : List DG} {xs : List AV} : Tp.gTup gs (.tup xs) env h = gAll gs xs env h := rfl
theorem gAll_nil : gAll [] [] env h = some (env, h) := rfl
theorem gAll_cons {g : DG} {gs : List DG} {vs : List AV} : gAll (g :: gs) (v :: vs) env h = (match g v env h with
  | some (env', h') => gAll gs vs env' h'
  | none => none) := rfl


theorem compL_ok {g : DG} {q : DE} {P : List AV → AHp → AHp → Prop} : True := trivial
theorem eComp_items {own : List Nat} {it : DI} {g : DG} {q : DE} {xs : List AV} {r : Res (List AV)} (e : it env h = .ok (.items xs) h1) (er : compL g s q (Tp.wipe own env) xs [] h1 = r) : eComp own it g s q env h = r.thn fun ys h2 => .ok (.lst ys) h2 := by
  show (it env h).thn (fun src h1 => (match src with
    | .items xs => Tp.bind (compL g s q (Tp.wipe own env) xs []) fun ys => ret (AV.lst ys)
    | .live _ => fail) h1) = _
  rw [e]
  show (compL g s q (Tp.wipe own env) xs [] h1).thn _ = _
  rw [er]
  rfl
end
end Tp
end
section
set_option linter.all false
set_option maxRecDepth 100000

namespace Tp
open PySem
theorem dat_kd {n : Nat} {x : AV} (h : x.dat n = true) : kd x = true := by cases x <;> cases n <;> first | rfl | (simp [AV.dat] at h)
mutual
theorem dat_pure : ∀ {n : Nat} {x : AV}, x.dat n = true → x.pure = true
  | _, .non, _ | _, .bl _, _ | _, .int _, _ | _, .str _, _ => rfl
  | 0, .tup _, h | 0, .lst _, h => by simp [AV.dat] at h
  | n + 1, .tup xs, h => datAll_pure (n := n) (xs := xs) h
  | n + 1, .lst xs, h => datAll_pure (n := n) (xs := xs) h
  | n, .ref _, h | n, .fn _, h | n, .clo _ _, h | n, .cls _, h | n, .xcls _, h | n, .ty _, h | n, .exc _ _, h | n, .obj _ _, h | n, .dct _, h => by cases n <;> simp [AV.dat] at h
theorem datAll_pure : ∀ {n : Nat} {xs : List AV}, AV.datAll n xs = true → AV.pureAll xs = true
  | _, [], _ => rfl
  | n, x :: r, h => by
    simp only [AV.datAll, Bool.and_eq_true] at h
    simp only [AV.pureAll, Bool.and_eq_true]
    exact ⟨dat_pure h.1, datAll_pure h.2⟩
end
mutual
theorem dat_noC : ∀ {n : Nat} {x : AV}, x.dat n = true → x.noC = true
  | _, .non, _ | _, .bl _, _ | _, .int _, _ | _, .str _, _ => rfl
  | 0, .tup _, h | 0, .lst _, h => by simp [AV.dat] at h
  | n + 1, .tup xs, h => datAll_noC (n := n) (xs := xs) h
  | n + 1, .lst xs, h => datAll_noC (n := n) (xs := xs) h
  | n, .ref _, h | n, .fn _, h | n, .clo _ _, h | n, .cls _, h | n, .xcls _, h | n, .ty _, h | n, .exc _ _, h | n, .obj _ _, h | n, .dct _, h => by cases n <;> simp [AV.dat] at h
theorem datAll_noC : ∀ {n : Nat} {xs : List AV}, AV.datAll n xs = true → AV.noCs xs = true
  | _, [], _ => rfl
  | n, x :: r, h => by
    simp only [AV.datAll, Bool.and_eq_true] at h
    simp only [AV.noCs, Bool.and_eq_true]
    exact ⟨dat_noC h.1, datAll_noC h.2⟩
end
mutual
theorem dat_mono : ∀ {n m : Nat} {x : AV}, n ≤ m → x.dat n = true → x.dat m = true
  | n, m, .non, _, _ | n, m, .bl _, _, _ | n, m, .int _, _, _ => by cases m <;> rfl
  | n, m, .str _, _, h => by cases n <;> cases m <;> exact h
  | 0, _, .tup _, _, h | 0, _, .lst _, _, h => by simp [AV.dat] at h
  | n + 1, 0, .tup _, hl, h | n + 1, 0, .lst _, hl, h => by omega
  | n + 1, m + 1, .tup xs, hl, h => datAll_mono (xs := xs) (by omega) h
  | n + 1, m + 1, .lst xs, hl, h => datAll_mono (xs := xs) (by omega) h
  | n, _, .ref _, _, h | n, _, .fn _, _, h | n, _, .clo _ _, _, h | n, _, .cls _, _, h | n, _, .xcls _, _, h | n, _, .ty _, _, h | n, _, .exc _ _, _, h | n, _, .obj _ _, _, h | n, _, .dct _, _, h => by cases n <;> simp [AV.dat] at h
theorem datAll_mono : ∀ {n m : Nat} {xs : List AV}, n ≤ m → AV.datAll n xs = true → AV.datAll m xs = true
  | _, _, [], _, _ => by simp [AV.datAll]
  | n, m, x :: r, hl, h => by
    simp only [AV.datAll, Bool.and_eq_true] at h ⊢
    exact ⟨dat_mono hl h.1, datAll_mono hl h.2⟩
end
theorem datAll_mem {n : Nat} : ∀ {xs : List AV}, AV.datAll n xs = true → ∀ x ∈ xs, x.dat n = true
  | [], _, x, hx => by cases hx
  | y :: r, h, x, hx => by
    simp only [AV.datAll, Bool.and_eq_true] at h
    rcases List.mem_cons.mp hx with rfl | hx
    · exact h.1
    · exact datAll_mem h.2 x hx
theorem datAll_of {n : Nat} : ∀ {xs : List AV}, (∀ x ∈ xs, x.dat n = true) → AV.datAll n xs = true
  | [], _ => by simp [AV.datAll]
  | y :: r, h => by
    simp only [AV.datAll, Bool.and_eq_true]
    exact ⟨h y List.mem_cons_self, datAll_of fun x hx => h x (List.mem_cons_of_mem _ hx)⟩
theorem ints_dat (n : Nat) : ∀ l : List Int, AV.datAll n (ints' l) = true
  | [] => by simp [ints', AV.datAll]
  | z :: r => by
    show (AV.dat n (.int z) && AV.datAll n (ints' r)) = true
    rw [ints_dat n r]
    cases n <;> rfl
mutual
theorem eqv_self : ∀ {n : Nat} {x : AV}, x.dat n = true → x.eqv x = true
  | _, .non, _ => rfl
  | _, .bl _, _ | _, .int _, _ | _, .str _, _ => by simp [AV.eqv]
  | 0, .tup _, h | 0, .lst _, h => by simp [AV.dat] at h
  | n + 1, .tup xs, h => by
    rw [show (AV.tup xs).eqv (.tup xs) = AV.eqvAll xs xs by simp [AV.eqv]]
    exact eqvAll_self (n := n) h
  | n + 1, .lst xs, h => by
    rw [show (AV.lst xs).eqv (.lst xs) = AV.eqvAll xs xs by simp [AV.eqv]]
    exact eqvAll_self (n := n) h
  | n, .ref _, h | n, .fn _, h | n, .clo _ _, h | n, .cls _, h | n, .xcls _, h | n, .ty _, h | n, .exc _ _, h | n, .obj _ _, h | n, .dct _, h => by cases n <;> simp [AV.dat] at h
theorem eqvAll_self : ∀ {n : Nat} {xs : List AV}, AV.datAll n xs = true → AV.eqvAll xs xs = true
  | _, [], _ => by simp [AV.eqvAll]
  | n, x :: r, h => by
    simp only [AV.datAll, Bool.and_eq_true] at h
    simp only [AV.eqvAll, Bool.and_eq_true]
    exact ⟨eqv_self h.1, eqvAll_self h.2⟩
end

def enumFrom' (i : Nat) : List AV → List AV
  | [] => []
  | x :: r => .tup [.int i, x] :: enumFrom' (i + 1) r
theorem enumL_eq (xs : List AV) : enumL xs = enumFrom' 0 xs := by
  have key : ∀ (xs : List AV) (i : Nat), (List.range' i xs.length).zipWith (fun (k : Nat) x => AV.tup [.int k, x]) xs = enumFrom' i xs := fun xs => by
    induction xs with
    | nil => intro i; rfl
    | cons x r ih =>
      intro i
      rw [List.length_cons, List.range'_succ, List.zipWith_cons_cons, ih]
      rfl
  unfold enumL
  rw [List.range_eq_range']
  exact key xs 0
theorem iEnum_tup {a : DE} {env : AEnv} {h h1 : AHp} {xs : List AV} (e : a env h = .ok (.tup xs) h1) : iEnum a env h = .ok (.items (enumFrom' 0 xs)) h1 := by
  show (a env h).thn (fun v h1 => enumOf v h1) = _
  rw [e, ← enumL_eq]
  rfl
theorem iVal_tup {a : DE} {env : AEnv} {h h1 : AHp} {xs : List AV} (e : a env h = .ok (.tup xs) h1) : iVal a env h = .ok (.items xs) h1 := by
  unfold iVal Tp.bind
  rw [e]
  rfl
theorem iVal_lst {a : DE} {env : AEnv} {h h1 : AHp} {xs : List AV} (e : a env h = .ok (.lst xs) h1) : iVal a env h = .ok (.items xs) h1 := by
  unfold iVal Tp.bind
  rw [e]
  rfl
theorem iRange_n {a : DE} {env : AEnv} {h h1 : AHp} {k : Int} (e : a env h = .ok (.int k) h1) (hk : small62 k = true) : iRange1 a env h = .ok (.items (rangeL 0 k.toNat)) h1 := by
  show (a env h).thn (fun v h1 => rangeOf [v] h1) = _
  rw [e]
  show (if small62 k then ret (Src.items (rangeL 0 k.toNat)) else fail) h1 = _
  rw [hk]
  rfl


theorem compL_inv {g : DG} {q : DE} {env : AEnv} (P : Nat → List AV → AHp → Prop) (xs : List AV) :
    ∀ (r acc : List AV) (i : Nat) (h : AHp), i ≤ xs.length → xs.drop i = r → acc.length + r.length ≤ SL → P i acc h →
      (∀ (i : Nat) (x : AV) (acc : List AV) (h : AHp), xs[i]? = some x → P i acc h → ∃ env1 h1 y h2, g x env h = some (env1, h1) ∧ q env1 h1 = .ok y h2 ∧ P (i + 1) (acc ++ [y]) h2) →
      ∃ ys h1, compL g (fun _ => ret true) q env r acc h = .ok ys h1 ∧ P xs.length ys h1
  | [], acc, i, h, hi, hd, hl, hp, _ => by
    refine ⟨acc, h, rfl, ?_⟩
    have : xs.length ≤ i := List.drop_eq_nil_iff.mp hd
    have e : i = xs.length := by omega
    rw [← e]
    exact hp
  | x :: r, acc, i, h, hi, hd, hl, hp, hs => by
    have hx : xs[i]? = some x := by
      have := congrArg List.head? hd
      rw [List.head?_drop] at this
      simpa using this
    obtain ⟨env1, h1, y, h2, e1, e2, p2⟩ := hs i x acc h hx hp
    have hd2 : xs.drop (i + 1) = r := by
      have := congrArg List.tail hd
      rw [List.tail_drop] at this
      simpa using this
    obtain ⟨ys, h3, e3, p3⟩ := compL_inv P xs r (acc ++ [y]) (i + 1) h2 (List.getElem?_eq_some_iff.mp hx).1 hd2 (by simp at hl ⊢; omega) p2 hs
    refine ⟨ys, h3, ?_, p3⟩
    rw [← e3]
    show (match g x env h with
      | none => Res.stuck
      | some (env1, h1) => (match ret true h1 with
        | .ok true h2 => (match q env1 h2 with
          | .ok y h3 => if acc.length < SL then compL g (fun _ => ret true) q env r (acc ++ [y]) h3 else .stuck
          | _ => .stuck)
        | .ok false h2 => compL g (fun _ => ret true) q env r acc h2
        | _ => .stuck)) = _
    rw [e1]
    simp only [ret, e2]
    rw [if_pos (by simp at hl; omega)]
end Tp
namespace Tp
open PySem
theorem ix_ref {h : AHp} {k : Nat} {xs : List AV} {i : Int} {y : AV} (hk : h[k]? = some (.lst xs)) (e : atI xs i = some y) : index (.ref k) (.int i) h = .ok y h := by
  have e1 : lstOf (.ref k) h = .ok xs h := by
    show (match h[k]? with
      | some (.lst xs) => Res.ok xs h
      | _ => .stuck) = _
    rw [hk]
  show (seqOf (.ref k) h).thn (fun xs h1 => ofOpt (atI xs i) h1) = _
  rw [show seqOf (.ref k) h = lstOf (.ref k) h from rfl, e1]
  show ofOpt (atI xs i) h = _
  rw [e]
  rfl
theorem ix_lst {h : AHp} {xs : List AV} {i : Int} {y : AV} (e : atI xs i = some y) : index (.lst xs) (.int i) h = .ok y h := by
  show ofOpt (atI xs i) h = _
  rw [e]
  rfl
theorem ix_tup {h : AHp} {xs : List AV} {i : Int} {y : AV} (e : atI xs i = some y) : index (.tup xs) (.int i) h = .ok y h := by
  show ofOpt (atI xs i) h = _
  rw [e]
  rfl
theorem atI_nat {α : Type} {xs : List α} {i : Nat} {y : α} (e : xs[i]? = some y) : atI xs (i : Int) = some y := by
  have hi := (List.getElem?_eq_some_iff.mp e).1
  unfold atI ixN
  rw [if_pos (by omega), if_pos (by omega)]
  simpa using e
theorem gSub_ref {h : AHp} {env : AEnv} {o i : DE} {v : AV} {k j : Nat} {z : Int} {xs : List AV} (hk : h[k]? = some (.lst xs)) (eo : o env h = .ok (.ref k) h) (ei : i env h = .ok (.int z) h) (ej : ixN xs.length z = some j) (hv : v.pure = true) :
    Tp.gSub o i v env h = some (env, h.set k (.lst (xs.set j v))) := by
  unfold Tp.gSub
  rw [eo]
  simp only [ei, hk, ej, hv, if_true]

def Wells (L : Nat) (h : AHp) : Prop := h.length = L ∧ ∀ j, j < L → ∃ a b c : Int, h[j]? = some (.lst [.int a, .int b, .int c])
theorem Wells.set {L : Nat} {h : AHp} (w : Wells L h) {k : Nat} {a b c : Int} : Wells L (h.set k (.lst [.int a, .int b, .int c])) := by
  refine ⟨by rw [List.length_set]; exact w.1, fun j hj => ?_⟩
  by_cases e : k = j
  · subst e
    exact ⟨a, b, c, List.getElem?_set_self (by rw [w.1]; exact hj)⟩
  · rw [List.getElem?_set_ne e]
    exact w.2 j hj
theorem Wells.push {L : Nat} {h : AHp} (w : Wells L h) {a b c : Int} : Wells (L + 1) (h ++ [.lst [.int a, .int b, .int c]]) := by
  refine ⟨by rw [List.length_append, w.1]; rfl, fun j hj => ?_⟩
  by_cases e : j < L
  · rw [List.getElem?_append_left (by rw [w.1]; exact e)]
    exact w.2 j e
  · have : j = L := by omega
    subst this
    exact ⟨a, b, c, by rw [List.getElem?_append_right (by rw [w.1]; exact Nat.le_refl _), w.1]; simp⟩

theorem octs_app {a b : List Int} (ha : octs a = true) (hb : octs b = true) : octs (a ++ b) = true := by
  unfold octs at *
  rw [List.all_append, ha, hb]
  rfl
theorem octs_sub {a b : List Int} (ha : octs a = true) (hm : ∀ z ∈ b, z ∈ a) : octs b = true := by
  unfold octs at *
  rw [List.all_eq_true] at *
  exact fun z hz => ha z (hm z hz)
theorem cut_ints (l : List Int) (lo hi : Option Int) : cut (ints' l) lo hi = ints' (cut l lo hi) := by
  unfold cut
  rw [ints_len, ints_drop, ints_take]
theorem cut_sub {α : Type} {l : List α} {lo hi : Option Int} : ∀ z ∈ cut l lo hi, z ∈ l := fun z hz => by
  unfold cut at hz
  exact List.mem_of_mem_drop (List.mem_of_mem_take hz)
theorem cut_le {α : Type} (l : List α) (lo hi : Option Int) : (cut l lo hi).length ≤ l.length := by
  unfold cut
  rw [List.length_take, List.length_drop]
  omega
theorem pureAll_app : ∀ {l m : List AV}, AV.pureAll l = true → AV.pureAll m = true → AV.pureAll (l ++ m) = true
  | [], _, _, h => h
  | z :: r, m, h1, h2 => by
    simp only [AV.pureAll, Bool.and_eq_true] at h1
    simp only [List.cons_append, AV.pureAll, Bool.and_eq_true]
    exact ⟨h1.1, pureAll_app h1.2 h2⟩
theorem pureAll_mem : ∀ {l : List AV} {y : AV}, AV.pureAll l = true → y ∈ l → y.pure = true
  | z :: r, y, h, hy => by
    simp only [AV.pureAll, Bool.and_eq_true] at h
    rcases List.mem_cons.mp hy with rfl | hy
    · exact h.1
    · exact pureAll_mem h.2 hy
theorem pureAll_of : ∀ {l : List AV}, (∀ y ∈ l, y.pure = true) → AV.pureAll l = true
  | [], _ => rfl
  | z :: r, h => by
    simp only [AV.pureAll, Bool.and_eq_true]
    exact ⟨h z List.mem_cons_self, pureAll_of fun y hy => h y (List.mem_cons_of_mem _ hy)⟩
theorem cut_pure {l : List AV} {lo hi : Option Int} (h : AV.pureAll l = true) : AV.pureAll (cut l lo hi) = true := pureAll_of fun y hy => pureAll_mem h (cut_sub y hy)
theorem ret_app {α : Type} {y : α} {h : AHp} : Tp.ret y h = .ok y h := rfl
theorem bInt_int {i : Int} {h : AHp} : bInt [.int i] h = .ok (.int i) h := rfl
theorem bAbs_int {i : Int} {h : AHp} : bAbs [.int i] h = .ok (.int (if i < 0 then -i else i)) h := rfl
theorem bDivmod_int {i j : Int} {h : AHp} (hj : 0 < j) (hj2 : j < 1073741824) : bDivmod [.int i, .int j] h = .ok (.tup [.int (i / j), .int (i % j)]) h := by
  show (if 0 < j ∧ j < 1073741824 then Tp.ret (AV.tup [.int (i / j), .int (i % j)]) else fail) h = _
  rw [if_pos ⟨hj, hj2⟩]
  rfl
theorem boolsOf_rep (n : Nat) : boolsOf (List.replicate n (.bl true)) = some (List.replicate n true) := by
  induction n with
  | zero => rfl
  | succ n ih =>
    rw [List.replicate_succ, List.replicate_succ]
    show (boolsOf (List.replicate n (.bl true))).map (true :: ·) = _
    rw [ih]
    rfl
theorem bAll_rep (n : Nat) (h : AHp) : bAll [.lst (List.replicate n (.bl true))] h = .ok (.bl true) h := by
  show (ofOpt (boolsOf (List.replicate n (.bl true))) h).thn (fun bs h1 => Tp.ret (AV.bl (bs.all id)) h1) = _
  rw [boolsOf_rep]
  show Res.ok (AV.bl ((List.replicate n true).all id)) h = _
  congr 2
  induction n with
  | zero => rfl
  | succ n ih => rw [List.replicate_succ, List.all_cons, ih]; rfl
end Tp
namespace Tp
open PySem
section
variable {q : DS} {r : List DS} {env env1 : AEnv} {h h1 : AHp} {v x : AV} {c : Nat} {o : Out}
theorem ss_rt (e : q env h = .rt v h1) : sSeqs (q :: r) env h = .rt v h1 := by rw [ss_cons, e]; rfl
theorem ss_nx (e : q env h = .nx env1 h1) (e2 : sSeqs r env1 h1 = o) : sSeqs (q :: r) env h = o := by rw [ss_cons, e]; exact e2
theorem ss_exc (e : q env h = .exc c x env1 h1) : sSeqs (q :: r) env h = .exc c x env1 h1 := by rw [ss_cons, e]; rfl
theorem s_ret {a : DE} (e : a env h = .ok v h1) : sRet a env h = .rt v h1 := by rw [sRet_eq, e]; rfl
theorem s_drop {a : DE} (e : a env h = .ok v h1) : sDrop a env h = .nx env h1 := by rw [sDrop_eq, e]; rfl
theorem s_dropX {a : DE} (e : a env h = .exc c x h1) : sDrop a env h = .exc c x env h1 := by rw [sDrop_eq, e]; rfl
theorem s_set {a : DE} {n : Nat} (e : a env h = .ok v h1) : sAsg a (Tp.gName n) env h = .nx (env.set n (some v)) h1 := by rw [sAsg_name, e]; rfl
theorem s_ifT {t : DT} {a b : DS} (e : t env h = .ok true h1) (e2 : a env h1 = o) : sIf t a b env h = o := by rw [sIf_eq, e]; exact e2
theorem s_ifF {t : DT} {a b : DS} (e : t env h = .ok false h1) (e2 : b env h1 = o) : sIf t a b env h = o := by rw [sIf_eq, e]; exact e2
theorem s_if0 {t : DT} {a : DS} (e : t env h = .ok false h1) : sIf t a (sSeqs []) env h = .nx env h1 := s_ifF e rfl
theorem t_not {t : DT} {b : Bool} (e : t env h = .ok b h1) : tNot t env h = .ok (!b) h1 := by rw [tNot_eq, e]; rfl
theorem t_truth {a : DE} {b : Bool} (e : a env h = .ok (.bl b) h1) : tTruth a env h = .ok b h1 := by rw [tTruth_eq, e]; rfl
theorem s_for {it : DI} {g : DG} {xs : List AV} (e : it env h = .ok (.items xs) h1) (e2 : forL g q xs env h1 = o) : sFor it g q env h = o := by rw [sFor_items e]; exact e2
end
end Tp
end
section
namespace Tp
open PySem

def top (i : Nat) : Stmt := PySem.Challenge.pw_touchpress_k53_whole_slips_laid.main.body.getD i (.Pass ⟨0, 0, 0, 0⟩)
def srcs : List FnSrc :=
  ([  { st := (top 1), name := "is_whole", at_ := ("is_whole", none), nm := "is_whole", qual := "is_whole", ps := ["value"], N := ["value"], keep := false, lam := false },
  { st := (top 2), name := "is_between", at_ := ("is_between", none), nm := "is_between", qual := "is_between", ps := ["value", "least", "most"], N := ["value", "least", "most"], keep := false, lam := false },
  { st := (top 3), name := "is_up_to", at_ := ("is_up_to", none), nm := "is_up_to", qual := "is_up_to", ps := ["value", "most"], N := ["value", "most"], keep := false, lam := false },
  { st := (top 4), name := "is_tuple_of", at_ := ("is_tuple_of", none), nm := "is_tuple_of", qual := "is_tuple_of", ps := ["value", "many"], N := ["value", "many"], keep := false, lam := false },
  { st := (top 5), name := "wrong_in", at_ := ("wrong_in", none), nm := "wrong_in", qual := "wrong_in", ps := ["value", "least", "most", "is_right"], N := ["value", "least", "most", "is_right", "index", "each"], keep := false, lam := false },
  { st := (top 9), name := "wrong_in_octets", at_ := ("wrong_in_octets", none), nm := "wrong_in_octets", qual := "wrong_in_octets", ps := ["value"], N := ["value"], keep := false, lam := true },
  { st := (top 15), name := "check_octets", at_ := ("check_octets", none), nm := "check_octets", qual := "check_octets", ps := ["octets"], N := ["octets", "index"], keep := false, lam := false },
  { st := (top 18), name := "changed_by", at_ := ("changed_by", none), nm := "changed_by", qual := "changed_by", ps := ["text", "change"], N := ["text", "change", "at", "many", "put"], keep := false, lam := false },
  { st := (top 19), name := "is_slip", at_ := ("is_slip", none), nm := "is_slip", qual := "is_slip", ps := ["value"], N := ["value"], keep := false, lam := false },
  { st := (top 20), name := "is_slip_of", at_ := ("is_slip_of", none), nm := "is_slip_of", qual := "is_slip_of", ps := ["octets", "value"], N := ["octets", "value"], keep := false, lam := false },
  { st := (top 22), name := "with_slip", at_ := ("with_slip", none), nm := "with_slip", qual := "with_slip", ps := ["octets", "slip"], N := ["octets", "slip"], keep := false, lam := false },
  { st := (top 24), name := "_law_well", at_ := ("_law_well", none), nm := "_law_well", qual := "_law_well", ps := ["script", "lap"], N := ["script", "lap", "stirred", "cell", "own"], keep := true, lam := false },
  { st := (top 25), name := "_law_draw", at_ := ("_law_draw", none), nm := "_law_draw", qual := "_law_draw", ps := ["well", "limit"], N := ["well", "limit", "figure", "mixed"], keep := false, lam := false },
  { st := (top 26), name := "_law_same", at_ := ("_law_same", none), nm := "_law_same", qual := "_law_same", ps := ["one", "two"], N := ["one", "two", "alike", "k"], keep := false, lam := false },
  { st := (top 27), name := "_law_kept_by", at_ := ("_law_kept_by", none), nm := "_law_kept_by", qual := "_law_kept_by", ps := ["act"], N := ["act", "e", "sorts", "at"], keep := false, lam := false },
  { st := (top 28), name := "_law_drawn", at_ := ("_law_drawn", none), nm := "_law_drawn", qual := "_law_drawn", ps := ["well", "most"], N := ["well", "most", "k"], keep := false, lam := false },
  { st := (top 29), name := "_law_right", at_ := ("_law_right", none), nm := "_law_right", qual := "_law_right", ps := ["well"], N := ["well", "octets", "lap", "at", "many", "put", "due", "size", "odd"], keep := false, lam := true },
  { st := (top 30), name := "law", at_ := ("law", none), nm := "law", qual := "law", ps := ["script"], N := ["script", "wells", "lap"], keep := false, lam := false }] : List FnSrc)
def fns : List FnInfo := srcs.map FnSrc.info
def clss : List ClsInfo := [
]
def excs : List ExcInfo := [
  { name := "TouchError", field := none, up := [0] },
  { name := "InvalidSlip", field := some "given", up := [1, 0] },
  { name := "InvalidOctets", field := some "index", up := [2, 0] }]
def gnames : List (Str × GV) := ([("is_whole", .fn 0), ("is_between", .fn 1), ("is_up_to", .fn 2), ("is_tuple_of", .fn 3), ("wrong_in", .fn 4), ("MOST_OCTETS", .con (.int (2000))), ("MOST_OCTET", .con (.int (255))), ("wrong_in_octets", .fn 5), ("TouchError", .xcls 0), ("InvalidSlip", .xcls 1), ("InvalidOctets", .xcls 2), ("check_octets", .fn 6), ("TRIPLE", .con (.int (3))), ("changed_by", .fn 7), ("is_slip", .fn 8), ("is_slip_of", .fn 9), ("with_slip", .fn 10), ("_law_well", .fn 11), ("_law_draw", .fn 12), ("_law_same", .fn 13)] : List (Str × GV)) ++ ([("_law_kept_by", .fn 14), ("_law_drawn", .fn 15), ("_law_right", .fn 16), ("law", .fn 17)] : List (Str × GV))
def glob : Glob := { fns := fns, clss := clss, excs := excs, names := gnames, muts := [(63, 11)] }
end Tp
end
section
set_option linter.all false
set_option maxRecDepth 100000
namespace Tp
open PySem PySem.Spec PyProof.Rows
def lam_21_43 : LamInfo := lamAt (top 9) 21 43
def lb_21_43 (c : Calls) : DE :=
  (eCall c 2 (aCons (eVar 1) (aCons (eVal (.int (255))) aNil)))
theorem lb_21_43_eq (n : Nat) (cs : List (Option AV)) (xs : List AV) : callN glob (n + 1) (.clo lam_21_43 cs) xs = callClo 2 0 (lb_21_43 (callN glob n)) cs xs := by kernel_rfl
def lam_111_0 : LamInfo := lamAt (top 29) 111 0
def lb_111_0 (c : Calls) : DE :=
  (eCall c 10 (aCons (eVar 0) (aCons (eVar 1) aNil)))
theorem lb_111_0_eq (n : Nat) (cs : List (Option AV)) (xs : List AV) : callN glob (n + 1) (.clo lam_111_0 cs) xs = callClo 0 0 (lb_111_0 (callN glob n)) cs xs := by kernel_rfl
def lam_112_0 : LamInfo := lamAt (top 29) 112 0
def lb_112_0 (c : Calls) : DE :=
  (eCallK c 10 ["octets", "slip"] ["slip", "octets"] aNil (aCons (eVar 1) (aCons (eVar 0) aNil)))
theorem lb_112_0_eq (n : Nat) (cs : List (Option AV)) (xs : List AV) : callN glob (n + 1) (.clo lam_112_0 cs) xs = callClo 0 0 (lb_112_0 (callN glob n)) cs xs := by kernel_rfl
def lam_116_0 : LamInfo := lamAt (top 29) 116 0
def lb_116_0 (c : Calls) : DE :=
  (eCall c 10 (aCons (eVar 0) (aCons (eVal .non) aNil)))
theorem lb_116_0_eq (n : Nat) (cs : List (Option AV)) (xs : List AV) : callN glob (n + 1) (.clo lam_116_0 cs) xs = callClo 0 0 (lb_116_0 (callN glob n)) cs xs := by kernel_rfl
def b_is_whole (c : Calls) : DS :=
  (sSeqs [(sRet (eAnd [(eBlt glob .isinstance (aCons (eVar 0) (aCons (eVal (.ty "int")) aNil))), (eNot (eBlt glob .isinstance (aCons (eVar 0) (aCons (eVal (.ty "bool")) aNil))))]))])
theorem is_whole_eq (n : Nat) (xs : List AV) : callN glob (n + 1) (.fn 0) xs = callFn false 1 1 (b_is_whole (callN glob n)) xs := by kernel_rfl
def b_is_between (c : Calls) : DS :=
  (sSeqs [(sRet (eAnd [(eCall c 0 (aCons (eVar 0) aNil)), (eChain .LtE .LtE (eVar 1) (eVar 0) (eVar 2))]))])
theorem is_between_eq (n : Nat) (xs : List AV) : callN glob (n + 1) (.fn 1) xs = callFn false 3 3 (b_is_between (callN glob n)) xs := by kernel_rfl
def b_is_up_to (c : Calls) : DS :=
  (sSeqs [(sRet (eCall c 1 (aCons (eVar 0) (aCons (eVal (.int 0)) (aCons (eVar 1) aNil)))))])
theorem is_up_to_eq (n : Nat) (xs : List AV) : callN glob (n + 1) (.fn 2) xs = callFn false 2 2 (b_is_up_to (callN glob n)) xs := by kernel_rfl
def b_is_tuple_of (c : Calls) : DS :=
  (sSeqs [(sRet (eAnd [(eBlt glob .isinstance (aCons (eVar 0) (aCons (eVal (.ty "tuple")) aNil))), (eCmp .Eq (eBlt glob .len (aCons (eVar 0) aNil)) (eVar 1))]))])
theorem is_tuple_of_eq (n : Nat) (xs : List AV) : callN glob (n + 1) (.fn 3) xs = callFn false 2 2 (b_is_tuple_of (callN glob n)) xs := by kernel_rfl
def b_wrong_in (c : Calls) : DS :=
  (sSeqs [(sIf (tOr [(tNot (tTruth (eBlt glob .isinstance (aCons (eVar 0) (aCons (eVal (.ty "tuple")) aNil))))), (tB (eCmp .Lt (eBlt glob .len (aCons (eVar 0) aNil)) (eVar 1)))])
    (sSeqs [(sRet (eLst (aCons (eVal .non) aNil)))])
    (sSeqs [])), (sFor (iEnum (eVar 0)) (gTup [(gName 4), (gName 5)])
    (sSeqs [(sIf (tOr [(tB (eCmp .Eq (eVar 4) (eVar 2))), (tNot (tTruth (eCallV c (eVar 3) (aCons (eSl (eVar 0) pNo (pAt (eVar 4))) (aCons (eVar 5) aNil)))))])
    (sSeqs [(sRet (eLst (aCons (eVar 4) aNil)))])
    (sSeqs []))])), (sRet (eLst aNil))])
theorem wrong_in_eq (n : Nat) (xs : List AV) : callN glob (n + 1) (.fn 4) xs = callFn false 4 6 (b_wrong_in (callN glob n)) xs := by kernel_rfl
def b_wrong_in_octets (c : Calls) : DS :=
  (sSeqs [(sRet (eCallL c 4 lam_21_43 [] (aCons (eVar 0) (aCons (eVal (.int 0)) (aCons (eVal (.int (2000))) aNil)))))])
theorem wrong_in_octets_eq (n : Nat) (xs : List AV) : callN glob (n + 1) (.fn 5) xs = callFn false 1 1 (b_wrong_in_octets (callN glob n)) xs := by kernel_rfl
def b_check_octets (c : Calls) : DS :=
  (sSeqs [(sFor (iVal (eCall c 5 (aCons (eVar 0) aNil))) (gName 1)
    (sSeqs [(sRaise 2 (aCons (eVar 1) aNil))]))])
theorem check_octets_eq (n : Nat) (xs : List AV) : callN glob (n + 1) (.fn 6) xs = callFn false 1 2 (b_check_octets (callN glob n)) xs := by kernel_rfl
def b_changed_by (c : Calls) : DS :=
  (sSeqs [(sAsg (eVar 1) (gTup [(gName 2), (gName 3), (gName 4)])), (sRet (eBin .Add (eBin .Add (eSl (eVar 0) pNo (pAt (eVar 2))) (eVar 4)) (eSl (eVar 0) (pAt (eBin .Add (eVar 2) (eVar 3))) pNo)))])
theorem changed_by_eq (n : Nat) (xs : List AV) : callN glob (n + 1) (.fn 7) xs = callFn false 2 5 (b_changed_by (callN glob n)) xs := by kernel_rfl
def b_is_slip (c : Calls) : DS :=
  (sSeqs [(sIf (tOr [(tNot (tTruth (eCall c 3 (aCons (eVar 0) (aCons (eVal (.int (3))) aNil))))), (tNot (tTruth (eCall c 2 (aCons (eIx (eVar 0) (eVal (.int 0))) (aCons (eVal (.int (2000))) aNil))))), (tNot (tTruth (eCall c 2 (aCons (eIx (eVar 0) (eVal (.int 1))) (aCons (eVal (.int (2000))) aNil)))))])
    (sSeqs [(sRet (eVal (.bl false)))])
    (sSeqs [])), (sRet (eCmp .Eq (eCall c 5 (aCons (eIx (eVar 0) (eVal (.int 2))) aNil)) (eLst aNil)))])
theorem is_slip_eq (n : Nat) (xs : List AV) : callN glob (n + 1) (.fn 8) xs = callFn false 1 1 (b_is_slip (callN glob n)) xs := by kernel_rfl
def b_is_slip_of (c : Calls) : DS :=
  (sSeqs [(sRet (eAnd [(eCall c 8 (aCons (eVar 1) aNil)), (eCmp .LtE (eBin .Add (eIx (eVar 1) (eVal (.int 0))) (eIx (eVar 1) (eVal (.int 1)))) (eBlt glob .len (aCons (eVar 0) aNil)))]))])
theorem is_slip_of_eq (n : Nat) (xs : List AV) : callN glob (n + 1) (.fn 9) xs = callFn false 2 2 (b_is_slip_of (callN glob n)) xs := by kernel_rfl
def b_with_slip (c : Calls) : DS :=
  (sSeqs [(sDrop (eCall c 6 (aCons (eVar 0) aNil))), (sIf (tNot (tTruth (eCall c 9 (aCons (eVar 0) (aCons (eVar 1) aNil)))))
    (sSeqs [(sRaise 1 (aCons (eVar 1) aNil))])
    (sSeqs [])), (sRet (eCall c 7 (aCons (eVar 0) (aCons (eVar 1) aNil))))])
theorem with_slip_eq (n : Nat) (xs : List AV) : callN glob (n + 1) (.fn 10) xs = callFn false 2 2 (b_with_slip (callN glob n)) xs := by kernel_rfl
def b__law_well (c : Calls) : DS :=
  (sSeqs [(sAsg (eBin .Add (eVal (.int 704969)) (eBin .Mult (eVal (.int 6121)) (eVar 1))) (gName 2)), (sFor (iVal (eSl (eVar 0) pNo (pAt (eVal (.int 16))))) (gName 3)
    (sSeqs [(sAsg (eBin .Mod (eBlt glob .int (aCons (eBin .Add (eBin .Add (eBin .Mult (eVar 2) (eVal (.int 48271))) (eBin .Mod (eBlt glob .int (aCons (eVar 3) aNil)) (eVal (.int 2147483549)))) (eVal (.int 23))) aNil)) (eVal (.int 2147483587))) (gName 2))])), (sAsg (eIf (tB (eCmp .Lt (eVar 1) (eBlt glob .len (aCons (eVar 0) aNil)))) (eBlt glob .int (aCons (eIx (eVar 0) (eVar 1)) aNil)) (eVal (.int 0))) (gName 4)), (sAsg (eBin .Mod (eBlt glob .int (aCons (eBin .Add (eBin .Add (eBin .Mult (eVar 2) (eVal (.int 53))) (eBin .Mult (eBin .Mod (eBlt glob .int (aCons (eVar 4) aNil)) (eVal (.int 2147483549))) (eVal (.int 15013)))) (eVal (.int 11))) aNil)) (eVal (.int 2147483587))) (gName 2)), (sRet (eNew (aCons (eIf (tOr [(tB (eCmp .Lt (eVar 4) (eVal (.int 0)))), (tB (eCmp .GtE (eVar 4) (eBin .Pow (eVal (.int 10)) (eVal (.int 15)))))]) (eBlt glob .abs (aCons (eVar 4) aNil)) (eVal (.int 0))) (aCons (eVar 2) (aCons (eVal (.int 0)) aNil)))))])
theorem _law_well_eq (n : Nat) (xs : List AV) : callN glob (n + 1) (.fn 11) xs = callFn true 2 5 (b__law_well (callN glob n)) xs := by kernel_rfl
def b__law_draw (c : Calls) : DS :=
  (sSeqs [(sIf (tB (eCmp .Gt (eIx (eVar 0) (eVal (.int 0))) (eVal (.int 0))))
    (sSeqs [(sAsg (eBlt glob .divmod (aCons (eIx (eVar 0) (eVal (.int 0))) (aCons (eVar 1) aNil))) (gTup [(gSub (eVar 0) (eVal (.int 0))), (gName 2)])), (sRet (eVar 2))])
    (sSeqs [])), (sAsg (eBin .Add (eIx (eVar 0) (eVal (.int 2))) (eVal (.int 1))) (gSub (eVar 0) (eVal (.int 2)))), (sAsg (eBin .Mod (eBlt glob .int (aCons (eBin .Add (eBin .Add (eBin .Mult (eIx (eVar 0) (eVal (.int 1))) (eVal (.int 40009))) (eBin .Mult (eVal (.int 15013)) (eIx (eVar 0) (eVal (.int 2))))) (eVal (.int 3))) aNil)) (eVal (.int 2147483587))) (gName 3)), (sAsg (eBin .Mod (eBlt glob .int (aCons (eBin .Add (eBin .Mult (eVar 3) (eBin .Add (eBin .Mod (eBlt glob .int (aCons (eVar 3) aNil)) (eVal (.int 5003))) (eVal (.int 20011)))) (eIx (eVar 0) (eVal (.int 2)))) aNil)) (eVal (.int 2147483587))) (gSub (eVar 0) (eVal (.int 1)))), (sRet (eBin .Mod (eBlt glob .int (aCons (eBin .FloorDiv (eIx (eVar 0) (eVal (.int 1))) (eVal (.int 1031))) aNil)) (eVar 1)))])
theorem _law_draw_eq (n : Nat) (xs : List AV) : callN glob (n + 1) (.fn 12) xs = callFn false 2 4 (b__law_draw (callN glob n)) xs := by kernel_rfl
def b__law_same (c : Calls) : DS :=
  (sSeqs [(sIf (tTruth (eBlt glob .isinstance (aCons (eVar 1) (aCons (eVal (.ty "tuple")) aNil))))
    (sSeqs [(sIf (tOr [(tNot (tTruth (eBlt glob .isinstance (aCons (eVar 0) (aCons (eVal (.ty "tuple")) aNil))))), (tB (eCmp .NotEq (eBlt glob .len (aCons (eVar 0) aNil)) (eBlt glob .len (aCons (eVar 1) aNil))))])
    (sSeqs [(sRet (eVal (.bl false)))])
    (sSeqs [])), (sRet (eBlt glob .all (aCons (eComp [3] (iRange1 (eBlt glob .len (aCons (eVar 1) aNil))) (gName 3) (fun _ => ret true) (eCall c 13 (aCons (eIx (eVar 0) (eVar 3)) (aCons (eIx (eVar 1) (eVar 3)) aNil)))) aNil)))])
    (sSeqs [])), (sIf (tTruth (eBlt glob .isinstance (aCons (eVar 1) (aCons (eVal (.ty "bool")) aNil))))
    (sSeqs [(sRet (eAnd [(eBlt glob .isinstance (aCons (eVar 0) (aCons (eVal (.ty "bool")) aNil))), (eCmp .Eq (eVar 0) (eVar 1))]))])
    (sSeqs [])), (sIf (tTruth (eBlt glob .isinstance (aCons (eVar 1) (aCons (eVal (.ty "int")) aNil))))
    (sSeqs [(sRet (eAnd [(eBlt glob .isinstance (aCons (eVar 0) (aCons (eVal (.ty "int")) aNil))), (eNot (eBlt glob .isinstance (aCons (eVar 0) (aCons (eVal (.ty "bool")) aNil)))), (eCmp .Eq (eVar 0) (eVar 1))]))])
    (sSeqs [])), (sIf (tTruth (eBlt glob .isinstance (aCons (eVar 1) (aCons (eVal (.ty "str")) aNil))))
    (sSeqs [(sRet (eAnd [(eBlt glob .isinstance (aCons (eVar 0) (aCons (eVal (.ty "str")) aNil))), (eCmp .Eq (eVar 0) (eVar 1))]))])
    (sSeqs [])), (sIf (tB (eCmp .Is (eVar 1) (eVal .non)))
    (sSeqs [(sRet (eCmp .Is (eVar 0) (eVal .non)))])
    (sSeqs [])), (sAsg (eAnd [(eCmp .Eq (eBlt glob .isinstance (aCons (eVar 0) (aCons (eVal (.ty "list")) aNil))) (eBlt glob .isinstance (aCons (eVar 1) (aCons (eVal (.ty "list")) aNil)))), (eCmp .Eq (eBlt glob .isinstance (aCons (eVar 0) (aCons (eVal (.ty "dict")) aNil))) (eBlt glob .isinstance (aCons (eVar 1) (aCons (eVal (.ty "dict")) aNil))))]) (gName 2)), (sRet (eAnd [(eVar 2), (eNot (eBlt glob .isinstance (aCons (eVar 0) (aCons (eVal (.ty "tuple")) aNil)))), (eCmp .Is (eCmp .Eq (eVar 0) (eVar 1)) (eVal (.bl true)))]))])
theorem _law_same_eq (n : Nat) (xs : List AV) : callN glob (n + 1) (.fn 13) xs = callFn false 2 4 (b__law_same (callN glob n)) xs := by kernel_rfl
def b__law_kept_by (c : Calls) : DS :=
  (sSeqs [(sTry glob 0 1
    (sSeqs [(sDrop (eCallV c (eVar 0) aNil))])
    (sSeqs [(sAsg (eLst (aCons (eBlt glob .isinstance (aCons (eVar 1) (aCons (eVal (.xcls 2)) aNil))) (aCons (eBlt glob .isinstance (aCons (eVar 1) (aCons (eVal (.xcls 1)) aNil))) aNil))) (gName 2)), (sIf (tOr [(tB (eCmp .NotEq (eMeth .count (eVar 2) (aCons (eVal (.bl true)) aNil)) (eVal (.int 1)))), (tNot (tTruth (eBlt glob .isinstance (aCons (eVar 1) (aCons (eVal (.ty "ValueError")) aNil)))))])
    (sSeqs [(sRet (eTup (aCons (eVal (.str [111, 100, 100])) (aCons (eVal .non) aNil))))])
    (sSeqs [])), (sAsg (eMeth .index (eVar 2) (aCons (eVal (.bl true)) aNil)) (gName 3)), (sRet (eTup (aCons (eIx (eTup (aCons (eVal (.str [111, 99, 116, 101, 116, 115])) (aCons (eVal (.str [115, 108, 105, 112])) aNil))) (eVar 3)) (aCons (eIf (tB (eCmp .Lt (eVar 3) (eVal (.int 1)))) (eAttrX glob "index" (eVar 1)) (eAttrX glob "given" (eVar 1))) aNil))))])), (sRet (eTup (aCons (eVal (.str [108, 101, 116])) (aCons (eVal .non) aNil))))])
theorem _law_kept_by_eq (n : Nat) (xs : List AV) : callN glob (n + 1) (.fn 14) xs = callFn false 1 4 (b__law_kept_by (callN glob n)) xs := by kernel_rfl
def b__law_drawn (c : Calls) : DS :=
  (sSeqs [(sRet (eBlt glob .tuple (aCons (eComp [2] (iRange1 (eCall c 12 (aCons (eVar 0) (aCons (eBin .Add (eVar 1) (eVal (.int 1))) aNil)))) (gName 2) (fun _ => ret true) (eCall c 12 (aCons (eVar 0) (aCons (eVal (.int 256)) aNil)))) aNil)))])
theorem _law_drawn_eq (n : Nat) (xs : List AV) : callN glob (n + 1) (.fn 15) xs = callFn false 2 3 (b__law_drawn (callN glob n)) xs := by kernel_rfl
def b__law_right (c : Calls) : DS :=
  (sSeqs [(sAsg (eCall c 15 (aCons (eVar 0) (aCons (eVal (.int 30)) aNil))) (gName 1)), (sFor (iRange1 (eVal (.int 4))) (gName 2)
    (sSeqs [(sAsg (eCall c 12 (aCons (eVar 0) (aCons (eBin .Add (eBlt glob .len (aCons (eVar 1) aNil)) (eVal (.int 1))) aNil))) (gName 3)), (sPar [4, 5] (aCons (eCall c 12 (aCons (eVar 0) (aCons (eBin .Add (eBin .Sub (eBlt glob .len (aCons (eVar 1) aNil)) (eVar 3)) (eVal (.int 1))) aNil))) (aCons (eCall c 15 (aCons (eVar 0) (aCons (eVal (.int 8)) aNil))) aNil))), (sAsg (eBin .Add (eBin .Add (eSl (eVar 1) pNo (pAt (eVar 3))) (eVar 5)) (eSl (eVar 1) (pAt (eBin .Add (eVar 3) (eVar 4))) pNo)) (gName 6)), (sIf (tNot (tTruth (eCall c 13 (aCons (eTup (aCons (eCall c 10 (aCons (eVar 1) (aCons (eTup (aCons (eVar 3) (aCons (eVar 4) (aCons (eVar 5) aNil)))) aNil))) (aCons (eCallK c 10 ["octets", "slip"] ["slip", "octets"] aNil (aCons (eTup (aCons (eVar 3) (aCons (eVar 4) (aCons (eVar 5) aNil)))) (aCons (eVar 1) aNil))) aNil))) (aCons (eTup (aCons (eVar 6) (aCons (eVar 6) aNil))) aNil)))))
    (sSeqs [(sRet (eVal (.bl false)))])
    (sSeqs [])), (sAsg (eVar 6) (gName 1))])), (sAsg (eBlt glob .len (aCons (eVar 1) aNil)) (gName 7)), (sFor (iVal (eTup (aCons (eVal .non) (aCons (eVal (.int 5)) (aCons (eTup aNil) (aCons (eTup (aCons (eVal (.int 0)) (aCons (eVal (.int 0)) aNil))) (aCons (eTup (aCons (eVal (.int 0)) (aCons (eVal (.int 0)) (aCons (eTup aNil) (aCons (eTup aNil) aNil))))) (aCons (eLst (aCons (eVal (.int 0)) (aCons (eVal (.int 0)) (aCons (eTup aNil) aNil)))) (aCons (eTup (aCons (eBin .Add (eVar 7) (eVal (.int 1))) (aCons (eVal (.int 0)) (aCons (eTup aNil) aNil)))) (aCons (eTup (aCons (eVal (.int 0)) (aCons (eBin .Add (eVar 7) (eVal (.int 1))) (aCons (eTup aNil) aNil)))) (aCons (eTup (aCons (eVar 7) (aCons (eVal (.int 1)) (aCons (eTup aNil) aNil)))) (aCons (eTup (aCons (eBin .Sub (eVal (.int 0)) (eVal (.int 1))) (aCons (eVal (.int 0)) (aCons (eTup aNil) aNil)))) (aCons (eTup (aCons (eVal (.int 0)) (aCons (eVal .non) (aCons (eTup aNil) aNil)))) (aCons (eTup (aCons (eVal (.int 0)) (aCons (eVal (.int 0)) (aCons (eLst (aCons (eVal (.int 1)) aNil)) aNil)))) (aCons (eTup (aCons (eVal (.int 0)) (aCons (eVal (.int 0)) (aCons (eTup (aCons (eVal (.int 256)) aNil)) aNil)))) (aCons (eTup (aCons (eVal (.bl true)) (aCons (eVal (.int 0)) (aCons (eTup aNil) aNil)))) (aCons (eTup (aCons (eVal (.int 0)) (aCons (eVal (.int 0)) (aCons (eTup (aCons (eBin .Sub (eVal (.int 0)) (eVal (.int 1))) aNil)) aNil)))) (aCons (eTup (aCons (eVal (.int 0)) (aCons (eVal (.int 0)) (aCons (eTup (aCons (eVal .non) aNil)) aNil)))) (aCons (eTup (aCons (eVal (.int 0)) (aCons (eVal (.int 0)) (aCons (eVal (.str [97])) aNil)))) (aCons (eTup (aCons (eVal (.str [48])) (aCons (eVal (.int 0)) (aCons (eTup aNil) aNil)))) aNil)))))))))))))))))))) (gName 8)
    (sSeqs [(sIf (tNot (tTruth (eCall c 13 (aCons (eTup (aCons (eCallL c 14 lam_111_0 [1, 8] aNil) (aCons (eCallL c 14 lam_112_0 [1, 8] aNil) aNil))) (aCons (eBin .Mult (eTup (aCons (eTup (aCons (eVal (.str [115, 108, 105, 112])) (aCons (eVar 8) aNil))) aNil)) (eVal (.int 2))) aNil)))))
    (sSeqs [(sRet (eVal (.bl false)))])
    (sSeqs []))])), (sFor (iVal (eTup (aCons (eTup (aCons (eVal .non) (aCons (eVal .non) aNil))) (aCons (eTup (aCons (eBlt glob .list (aCons (eVar 1) aNil)) (aCons (eVal .non) aNil))) (aCons (eTup (aCons (eTup (aCons (eVal (.int 256)) aNil)) (aCons (eVal (.int 0)) aNil))) (aCons (eTup (aCons (eTup (aCons (eVal (.int 0)) (aCons (eVal .non) aNil))) (aCons (eVal (.int 1)) aNil))) (aCons (eTup (aCons (eBin .Add (eVar 1) (eTup (aCons (eVal (.bl true)) aNil))) (aCons (eVar 7) aNil))) (aCons (eTup (aCons (eVal (.str [97])) (aCons (eVal .non) aNil))) aNil)))))))) (gTup [(gName 8), (gName 3)])
    (sSeqs [(sIf (tNot (tTruth (eCall c 13 (aCons (eCallL c 14 lam_116_0 [8] aNil) (aCons (eTup (aCons (eVal (.str [111, 99, 116, 101, 116, 115])) (aCons (eVar 3) aNil))) aNil)))))
    (sSeqs [(sRet (eVal (.bl false)))])
    (sSeqs []))])), (sRet (eCall c 13 (aCons (eCall c 10 (aCons (eTup aNil) (aCons (eTup (aCons (eVal (.int 0)) (aCons (eVal (.int 0)) (aCons (eTup (aCons (eVal (.int 7)) aNil)) aNil)))) aNil))) (aCons (eTup (aCons (eVal (.int 7)) aNil)) aNil))))])
theorem _law_right_eq (n : Nat) (xs : List AV) : callN glob (n + 1) (.fn 16) xs = callFn false 1 9 (b__law_right (callN glob n)) xs := by kernel_rfl
def b_law (c : Calls) : DS :=
  (sSeqs [(sAsg (eComp [2] (iRange1 (eBlt glob .max (aCons (eVal (.int 1)) (aCons (eBlt glob .min (aCons (eBlt glob .len (aCons (eVar 0) aNil)) (aCons (eVal (.int 3)) aNil))) aNil)))) (gName 2) (fun _ => ret true) (eCall c 11 (aCons (eVar 0) (aCons (eVar 2) aNil)))) (gName 1)), (sRet (eBlt glob .all (aCons (eComp [2] (iRange1 (eVal (.int 10))) (gName 2) (fun _ => ret true) (eCall c 16 (aCons (eIx (eVar 1) (eBin .Mod (eBlt glob .int (aCons (eVar 2) aNil)) (eBlt glob .len (aCons (eVar 1) aNil)))) aNil))) aNil)))])
theorem law_eq (n : Nat) (xs : List AV) : callN glob (n + 1) (.fn 17) xs = callFn false 1 3 (b_law (callN glob n)) xs := by kernel_rfl
end Tp
end
section
set_option linter.all false
set_option maxRecDepth 100000
namespace Tp
open PySem PySem.Spec PyProof.Rows

def wholeV : AV → Bool
  | .int _ => true
  | _ => false
theorem is_whole_ok (n : Nat) (x : AV) (h : AHp) (hx : kd x = true) : callN glob (n + 1) (.fn 0) [x] h = .ok (.bl (wholeV x)) h := by
  rw [is_whole_eq]
  refine fn_ok' rfl ?_ rfl
  simp only [b_is_whole, Tp.bind_eq, ret_at, thn_ok, thn_exc, val_eq, var_eq, bin_eq, cmp_eq, asBR_bl, tB_eq, chain_eq, tTruth_eq, truth_bl, tNot_eq, tAnd_nil, tAnd_cons, tOr_nil, tOr_cons, eAnd_one, eAnd_cons, eOr_one, eOr_cons, eNot_eq, eIf_eq, tIf_eq, aNil_eq, aCons_eq, eTup_eq, eLst_eq, eIx_eq, pNo_eq, pAt_eq, eSl_eq, eCall_eq, eCallL_eq, eBlt_eq, eMeth_eq, eAttrX_eq, add_int, sub_int, lt_int, le_int, gt_int, ge_int, eq_int, ne_int, eq_bl, is_bl, is_non, isnot_non, oo_ok, oo_exc, on_nx, on_rt, on_exc, ss_nil, ss_one, ss_cons, sRet_eq, sDrop_eq, sAsg_name, sIf_eq, sRaise_eq, startA, List.map_cons, List.map_nil, List.length_cons, List.length_nil, List.cons_append, List.nil_append, List.append_nil, List.getElem?_cons_zero, List.getElem?_cons_succ, List.set_cons_zero, List.set_cons_succ, List.replicate, if_true, if_false, Bool.false_eq_true, Bool.not_true, Bool.not_false, builtin, bIsInst, isInst_ty hx (n := "int") rfl, isInst_ty hx (n := "bool") rfl]
  cases x <;> first | rfl | (cases hx)

def betwV (a b : Int) : AV → Bool
  | .int i => decide (a ≤ i) && decide (i ≤ b)
  | _ => false
theorem is_between_ok (n : Nat) (x : AV) (a b : Int) (h : AHp) (hx : kd x = true) : callN glob (n + 2) (.fn 1) [x, .int a, .int b] h = .ok (.bl (betwV a b x)) h := by
  rw [is_between_eq]
  refine fn_ok' rfl ?_ rfl
  simp only [b_is_between, Tp.bind_eq, ret_at, thn_ok, thn_exc, val_eq, var_eq, bin_eq, cmp_eq, asBR_bl, tB_eq, chain_eq, tTruth_eq, truth_bl, tNot_eq, tAnd_nil, tAnd_cons, tOr_nil, tOr_cons, eAnd_one, eAnd_cons, eOr_one, eOr_cons, eNot_eq, eIf_eq, tIf_eq, aNil_eq, aCons_eq, eTup_eq, eLst_eq, eIx_eq, pNo_eq, pAt_eq, eSl_eq, eCall_eq, eCallL_eq, eBlt_eq, eMeth_eq, eAttrX_eq, add_int, sub_int, lt_int, le_int, gt_int, ge_int, eq_int, ne_int, eq_bl, is_bl, is_non, isnot_non, oo_ok, oo_exc, on_nx, on_rt, on_exc, ss_nil, ss_one, ss_cons, sRet_eq, sDrop_eq, sAsg_name, sIf_eq, sRaise_eq, startA, List.map_cons, List.map_nil, List.length_cons, List.length_nil, List.cons_append, List.nil_append, List.append_nil, List.getElem?_cons_zero, List.getElem?_cons_succ, List.set_cons_zero, List.set_cons_succ, List.replicate, if_true, if_false, Bool.false_eq_true, Bool.not_true, Bool.not_false, is_whole_ok _ _ _ hx]
  cases x <;> first | (cases hx; done) | rfl | skip
  rename_i i
  simp only [wholeV, betwV, Tp.bind_eq, ret_at, thn_ok, thn_exc, val_eq, var_eq, bin_eq, cmp_eq, asBR_bl, tB_eq, chain_eq, tTruth_eq, truth_bl, tNot_eq, tAnd_nil, tAnd_cons, tOr_nil, tOr_cons, eAnd_one, eAnd_cons, eOr_one, eOr_cons, eNot_eq, eIf_eq, tIf_eq, aNil_eq, aCons_eq, eTup_eq, eLst_eq, eIx_eq, pNo_eq, pAt_eq, eSl_eq, eCall_eq, eCallL_eq, eBlt_eq, eMeth_eq, eAttrX_eq, add_int, sub_int, lt_int, le_int, gt_int, ge_int, eq_int, ne_int, eq_bl, is_bl, is_non, isnot_non, oo_ok, oo_exc, on_nx, on_rt, on_exc, ss_nil, ss_one, ss_cons, sRet_eq, sDrop_eq, sAsg_name, sIf_eq, sRaise_eq, startA, List.map_cons, List.map_nil, List.length_cons, List.length_nil, List.cons_append, List.nil_append, List.append_nil, List.getElem?_cons_zero, List.getElem?_cons_succ, List.set_cons_zero, List.set_cons_succ, List.replicate, if_true, if_false, Bool.false_eq_true, Bool.not_true, Bool.not_false]
  by_cases h1 : a ≤ i <;> simp [h1, Tp.bind_eq, ret_at, thn_ok, thn_exc, val_eq, var_eq, bin_eq, cmp_eq, asBR_bl, tB_eq, chain_eq, tTruth_eq, truth_bl, tNot_eq, tAnd_nil, tAnd_cons, tOr_nil, tOr_cons, eAnd_one, eAnd_cons, eOr_one, eOr_cons, eNot_eq, eIf_eq, tIf_eq, aNil_eq, aCons_eq, eTup_eq, eLst_eq, eIx_eq, pNo_eq, pAt_eq, eSl_eq, eCall_eq, eCallL_eq, eBlt_eq, eMeth_eq, eAttrX_eq, add_int, sub_int, lt_int, le_int, gt_int, ge_int, eq_int, ne_int, eq_bl, is_bl, is_non, isnot_non, oo_ok, oo_exc, on_nx, on_rt, on_exc, ss_nil, ss_one, ss_cons, sRet_eq, sDrop_eq, sAsg_name, sIf_eq, sRaise_eq, startA, List.map_cons, List.map_nil, List.length_cons, List.length_nil, List.cons_append, List.nil_append, List.append_nil, List.getElem?_cons_zero, List.getElem?_cons_succ, List.set_cons_zero, List.set_cons_succ, List.replicate, if_true, if_false, Bool.false_eq_true, Bool.not_true, Bool.not_false]
theorem is_up_to_ok (n : Nat) (x : AV) (b : Int) (h : AHp) (hx : kd x = true) : callN glob (n + 3) (.fn 2) [x, .int b] h = .ok (.bl (betwV 0 b x)) h := by
  rw [is_up_to_eq]
  refine fn_ok' rfl ?_ rfl
  simp only [b_is_up_to, Tp.bind_eq, ret_at, thn_ok, thn_exc, val_eq, var_eq, bin_eq, cmp_eq, asBR_bl, tB_eq, chain_eq, tTruth_eq, truth_bl, tNot_eq, tAnd_nil, tAnd_cons, tOr_nil, tOr_cons, eAnd_one, eAnd_cons, eOr_one, eOr_cons, eNot_eq, eIf_eq, tIf_eq, aNil_eq, aCons_eq, eTup_eq, eLst_eq, eIx_eq, pNo_eq, pAt_eq, eSl_eq, eCall_eq, eCallL_eq, eBlt_eq, eMeth_eq, eAttrX_eq, add_int, sub_int, lt_int, le_int, gt_int, ge_int, eq_int, ne_int, eq_bl, is_bl, is_non, isnot_non, oo_ok, oo_exc, on_nx, on_rt, on_exc, ss_nil, ss_one, ss_cons, sRet_eq, sDrop_eq, sAsg_name, sIf_eq, sRaise_eq, startA, List.map_cons, List.map_nil, List.length_cons, List.length_nil, List.cons_append, List.nil_append, List.append_nil, List.getElem?_cons_zero, List.getElem?_cons_succ, List.set_cons_zero, List.set_cons_succ, List.replicate, if_true, if_false, Bool.false_eq_true, Bool.not_true, Bool.not_false, is_between_ok _ _ _ _ _ hx]
def tupLen (k : Nat) : AV → Bool
  | .tup xs => xs.length == k
  | _ => false
theorem is_tuple_of_ok (n : Nat) (x : AV) (k : Nat) (h : AHp) (hx : kd x = true) : callN glob (n + 1) (.fn 3) [x, .int k] h = .ok (.bl (tupLen k x)) h := by
  rw [is_tuple_of_eq]
  refine fn_ok' rfl ?_ rfl
  simp only [b_is_tuple_of, Tp.bind_eq, ret_at, thn_ok, thn_exc, val_eq, var_eq, bin_eq, cmp_eq, asBR_bl, tB_eq, chain_eq, tTruth_eq, truth_bl, tNot_eq, tAnd_nil, tAnd_cons, tOr_nil, tOr_cons, eAnd_one, eAnd_cons, eOr_one, eOr_cons, eNot_eq, eIf_eq, tIf_eq, aNil_eq, aCons_eq, eTup_eq, eLst_eq, eIx_eq, pNo_eq, pAt_eq, eSl_eq, eCall_eq, eCallL_eq, eBlt_eq, eMeth_eq, eAttrX_eq, add_int, sub_int, lt_int, le_int, gt_int, ge_int, eq_int, ne_int, eq_bl, is_bl, is_non, isnot_non, oo_ok, oo_exc, on_nx, on_rt, on_exc, ss_nil, ss_one, ss_cons, sRet_eq, sDrop_eq, sAsg_name, sIf_eq, sRaise_eq, startA, List.map_cons, List.map_nil, List.length_cons, List.length_nil, List.cons_append, List.nil_append, List.append_nil, List.getElem?_cons_zero, List.getElem?_cons_succ, List.set_cons_zero, List.set_cons_succ, List.replicate, if_true, if_false, Bool.false_eq_true, Bool.not_true, Bool.not_false, builtin, bIsInst, isInst_ty hx (n := "tuple") rfl]
  cases x <;> first | (cases hx; done) | rfl | skip
  rename_i xs
  simp only [isTy, Tp.bind_eq, ret_at, thn_ok, thn_exc, val_eq, var_eq, bin_eq, cmp_eq, asBR_bl, tB_eq, chain_eq, tTruth_eq, truth_bl, tNot_eq, tAnd_nil, tAnd_cons, tOr_nil, tOr_cons, eAnd_one, eAnd_cons, eOr_one, eOr_cons, eNot_eq, eIf_eq, tIf_eq, aNil_eq, aCons_eq, eTup_eq, eLst_eq, eIx_eq, pNo_eq, pAt_eq, eSl_eq, eCall_eq, eCallL_eq, eBlt_eq, eMeth_eq, eAttrX_eq, add_int, sub_int, lt_int, le_int, gt_int, ge_int, eq_int, ne_int, eq_bl, is_bl, is_non, isnot_non, oo_ok, oo_exc, on_nx, on_rt, on_exc, ss_nil, ss_one, ss_cons, sRet_eq, sDrop_eq, sAsg_name, sIf_eq, sRaise_eq, startA, List.map_cons, List.map_nil, List.length_cons, List.length_nil, List.cons_append, List.nil_append, List.append_nil, List.getElem?_cons_zero, List.getElem?_cons_succ, List.set_cons_zero, List.set_cons_succ, List.replicate, if_true, if_false, Bool.false_eq_true, Bool.not_true, Bool.not_false, builtin, bLen, lenOf, seqOf, tupLen, beq_self_eq_true]
  congr 2
  cases e : xs.length == k <;> simp at e ⊢ <;> omega

def octV : AV → Bool := betwV 0 255
def badFrom (i : Nat) : List AV → Option Nat
  | [] => none
  | x :: r => if i = 2000 ∨ octV x = false then some i else badFrom (i + 1) r

def badO : AV → List AV
  | .tup xs => (match badFrom 0 xs with
    | some j => [.int j]
    | none => [])
  | _ => [.non]
theorem lam_oct_ok (n : Nat) (a x : AV) (h : AHp) (ha : a.noC = true) (hx : kd x = true) (hc : x.noC = true) : callN glob (n + 4) (.clo lam_21_43 []) [a, x] h = .ok (.bl (octV x)) h := by
  rw [lb_21_43_eq]
  refine clo_ok rfl ?_ rfl ?_ rfl
  · simp only [AV.noCs, ha, hc, Bool.and_self]
  · simp only [lb_21_43, Tp.bind_eq, ret_at, thn_ok, thn_exc, val_eq, var_eq, bin_eq, cmp_eq, asBR_bl, tB_eq, chain_eq, tTruth_eq, truth_bl, tNot_eq, tAnd_nil, tAnd_cons, tOr_nil, tOr_cons, eAnd_one, eAnd_cons, eOr_one, eOr_cons, eNot_eq, eIf_eq, tIf_eq, aNil_eq, aCons_eq, eTup_eq, eLst_eq, eIx_eq, pNo_eq, pAt_eq, eSl_eq, eCall_eq, eCallL_eq, eBlt_eq, eMeth_eq, eAttrX_eq, add_int, sub_int, lt_int, le_int, gt_int, ge_int, eq_int, ne_int, eq_bl, is_bl, is_non, isnot_non, oo_ok, oo_exc, on_nx, on_rt, on_exc, ss_nil, ss_one, ss_cons, sRet_eq, sDrop_eq, sAsg_name, sIf_eq, sRaise_eq, startA, List.map_cons, List.map_nil, List.length_cons, List.length_nil, List.cons_append, List.nil_append, List.append_nil, List.getElem?_cons_zero, List.getElem?_cons_succ, List.set_cons_zero, List.set_cons_succ, List.replicate, if_true, if_false, Bool.false_eq_true, Bool.not_true, Bool.not_false]
    exact is_up_to_ok _ _ _ _ hx
theorem wrong_loop (n : Nat) (xs : List AV) (hd : AV.datAll 50 xs = true) (h : AHp) : ∀ (r : List AV) (i : Nat) (e4 e5 : Option AV), xs.drop i = r →
    (∃ j, badFrom i r = some j ∧ forL (Tp.gTup [(Tp.gName 4), (Tp.gName 5)]) (sSeqs [(sIf (tOr [(tB (eCmp .Eq (eVar 4) (eVar 2))), (tNot (tTruth (eCallV (callN glob (n + 4)) (eVar 3) (aCons (eSl (eVar 0) pNo (pAt (eVar 4))) (aCons (eVar 5) aNil)))))])
    (sSeqs [(sRet (eLst (aCons (eVar 4) aNil)))]) (sSeqs []))]) (enumFrom' i r) [some (.tup xs), some (.int 0), some (.int 2000), some (.clo lam_21_43 []), e4, e5] h = .rt (.lst [.int j]) h) ∨
    (badFrom i r = none ∧ ∃ e4' e5', forL (Tp.gTup [(Tp.gName 4), (Tp.gName 5)]) (sSeqs [(sIf (tOr [(tB (eCmp .Eq (eVar 4) (eVar 2))), (tNot (tTruth (eCallV (callN glob (n + 4)) (eVar 3) (aCons (eSl (eVar 0) pNo (pAt (eVar 4))) (aCons (eVar 5) aNil)))))])
    (sSeqs [(sRet (eLst (aCons (eVar 4) aNil)))]) (sSeqs []))]) (enumFrom' i r) [some (.tup xs), some (.int 0), some (.int 2000), some (.clo lam_21_43 []), e4, e5] h = .nx [some (.tup xs), some (.int 0), some (.int 2000), some (.clo lam_21_43 []), e4', e5'] h)
  | [], i, e4, e5, _ => .inr ⟨rfl, e4, e5, rfl⟩
  | x :: r, i, e4, e5, hr => by
    have hx : xs[i]? = some x := by
      have := congrArg List.head? hr
      rw [List.head?_drop] at this
      simpa using this
    have hr2 : xs.drop (i + 1) = r := by
      have := congrArg List.tail hr
      rw [List.tail_drop] at this
      simpa using this
    have dx := datAll_mem hd x (List.mem_of_getElem? hx)
    have ih := wrong_loop n xs hd h r (i + 1) (some (.int i)) (some x) hr2
    have e0 : enumFrom' i (x :: r) = .tup [.int i, x] :: enumFrom' (i + 1) r := rfl
    rw [e0, forL_cons]
    simp only [gTup_tup, gAll_cons, gAll_nil, gName_eq, Tp.bind_eq, ret_at, thn_ok, thn_exc, val_eq, var_eq, bin_eq, cmp_eq, asBR_bl, tB_eq, chain_eq, tTruth_eq, truth_bl, tNot_eq, tAnd_nil, tAnd_cons, tOr_nil, tOr_cons, eAnd_one, eAnd_cons, eOr_one, eOr_cons, eNot_eq, eIf_eq, tIf_eq, aNil_eq, aCons_eq, eTup_eq, eLst_eq, eIx_eq, pNo_eq, pAt_eq, eSl_eq, eCall_eq, eCallL_eq, eBlt_eq, eMeth_eq, eAttrX_eq, add_int, sub_int, lt_int, le_int, gt_int, ge_int, eq_int, ne_int, eq_bl, is_bl, is_non, isnot_non, oo_ok, oo_exc, on_nx, on_rt, on_exc, ss_nil, ss_one, ss_cons, sRet_eq, sDrop_eq, sAsg_name, sIf_eq, sRaise_eq, startA, List.map_cons, List.map_nil, List.length_cons, List.length_nil, List.cons_append, List.nil_append, List.append_nil, List.getElem?_cons_zero, List.getElem?_cons_succ, List.set_cons_zero, List.set_cons_succ, List.replicate, if_true, if_false, Bool.false_eq_true, Bool.not_true, Bool.not_false]
    have call : eCallV (callN glob (n + 4)) (eVar 3) (aCons (eSl (eVar 0) pNo (pAt (eVar 4))) (aCons (eVar 5) aNil)) [some (.tup xs), some (.int 0), some (.int 2000), some (.clo lam_21_43 []), some (.int i), some x] h = .ok (.bl (octV x)) h := by
      rw [eCallV_clo (l := lam_21_43) (cs := []) (h1 := h) rfl]
      simp only [Tp.bind_eq, ret_at, thn_ok, thn_exc, val_eq, var_eq, bin_eq, cmp_eq, asBR_bl, tB_eq, chain_eq, tTruth_eq, truth_bl, tNot_eq, tAnd_nil, tAnd_cons, tOr_nil, tOr_cons, eAnd_one, eAnd_cons, eOr_one, eOr_cons, eNot_eq, eIf_eq, tIf_eq, aNil_eq, aCons_eq, eTup_eq, eLst_eq, eIx_eq, pNo_eq, pAt_eq, eSl_eq, eCall_eq, eCallL_eq, eBlt_eq, eMeth_eq, eAttrX_eq, add_int, sub_int, lt_int, le_int, gt_int, ge_int, eq_int, ne_int, eq_bl, is_bl, is_non, isnot_non, oo_ok, oo_exc, on_nx, on_rt, on_exc, ss_nil, ss_one, ss_cons, sRet_eq, sDrop_eq, sAsg_name, sIf_eq, sRaise_eq, startA, List.map_cons, List.map_nil, List.length_cons, List.length_nil, List.cons_append, List.nil_append, List.append_nil, List.getElem?_cons_zero, List.getElem?_cons_succ, List.set_cons_zero, List.set_cons_succ, List.replicate, if_true, if_false, Bool.false_eq_true, Bool.not_true, Bool.not_false, slice]
      refine lam_oct_ok n _ _ _ ?_ (dat_kd dx) (dat_noC dx)
      refine dat_noC (n := 51) (x := .tup _) (datAll_of fun y hy => ?_)
      exact datAll_mem hd y (List.mem_of_mem_drop (List.mem_of_mem_take hy))
    have hb : badFrom i (x :: r) = if i = 2000 ∨ octV x = false then some i else badFrom (i + 1) r := rfl
    rw [hb]
    by_cases h1 : i = 2000
    · left
      refine ⟨i, by rw [if_pos (.inl h1)], ?_⟩
      have e1 : ((i : Int) == 2000) = true := by simp [h1]
      simp only [e1, Tp.bind_eq, ret_at, thn_ok, thn_exc, val_eq, var_eq, bin_eq, cmp_eq, asBR_bl, tB_eq, chain_eq, tTruth_eq, truth_bl, tNot_eq, tAnd_nil, tAnd_cons, tOr_nil, tOr_cons, eAnd_one, eAnd_cons, eOr_one, eOr_cons, eNot_eq, eIf_eq, tIf_eq, aNil_eq, aCons_eq, eTup_eq, eLst_eq, eIx_eq, pNo_eq, pAt_eq, eSl_eq, eCall_eq, eCallL_eq, eBlt_eq, eMeth_eq, eAttrX_eq, add_int, sub_int, lt_int, le_int, gt_int, ge_int, eq_int, ne_int, eq_bl, is_bl, is_non, isnot_non, oo_ok, oo_exc, on_nx, on_rt, on_exc, ss_nil, ss_one, ss_cons, sRet_eq, sDrop_eq, sAsg_name, sIf_eq, sRaise_eq, startA, List.map_cons, List.map_nil, List.length_cons, List.length_nil, List.cons_append, List.nil_append, List.append_nil, List.getElem?_cons_zero, List.getElem?_cons_succ, List.set_cons_zero, List.set_cons_succ, List.replicate, if_true, if_false, Bool.false_eq_true, Bool.not_true, Bool.not_false, show (1 : Nat) ≤ SL from by decide, turn_rt]
    · have e1 : ((i : Int) == 2000) = false := by simp; omega
      simp only [e1, call, Tp.bind_eq, ret_at, thn_ok, thn_exc, val_eq, var_eq, bin_eq, cmp_eq, asBR_bl, tB_eq, chain_eq, tTruth_eq, truth_bl, tNot_eq, tAnd_nil, tAnd_cons, tOr_nil, tOr_cons, eAnd_one, eAnd_cons, eOr_one, eOr_cons, eNot_eq, eIf_eq, tIf_eq, aNil_eq, aCons_eq, eTup_eq, eLst_eq, eIx_eq, pNo_eq, pAt_eq, eSl_eq, eCall_eq, eCallL_eq, eBlt_eq, eMeth_eq, eAttrX_eq, add_int, sub_int, lt_int, le_int, gt_int, ge_int, eq_int, ne_int, eq_bl, is_bl, is_non, isnot_non, oo_ok, oo_exc, on_nx, on_rt, on_exc, ss_nil, ss_one, ss_cons, sRet_eq, sDrop_eq, sAsg_name, sIf_eq, sRaise_eq, startA, List.map_cons, List.map_nil, List.length_cons, List.length_nil, List.cons_append, List.nil_append, List.append_nil, List.getElem?_cons_zero, List.getElem?_cons_succ, List.set_cons_zero, List.set_cons_succ, List.replicate, if_true, if_false, Bool.false_eq_true, Bool.not_true, Bool.not_false]
      cases ho : octV x with
      | true =>
        rw [if_neg (by simp [h1])]
        simp only [Tp.bind_eq, ret_at, thn_ok, thn_exc, val_eq, var_eq, bin_eq, cmp_eq, asBR_bl, tB_eq, chain_eq, tTruth_eq, truth_bl, tNot_eq, tAnd_nil, tAnd_cons, tOr_nil, tOr_cons, eAnd_one, eAnd_cons, eOr_one, eOr_cons, eNot_eq, eIf_eq, tIf_eq, aNil_eq, aCons_eq, eTup_eq, eLst_eq, eIx_eq, pNo_eq, pAt_eq, eSl_eq, eCall_eq, eCallL_eq, eBlt_eq, eMeth_eq, eAttrX_eq, add_int, sub_int, lt_int, le_int, gt_int, ge_int, eq_int, ne_int, eq_bl, is_bl, is_non, isnot_non, oo_ok, oo_exc, on_nx, on_rt, on_exc, ss_nil, ss_one, ss_cons, sRet_eq, sDrop_eq, sAsg_name, sIf_eq, sRaise_eq, startA, List.map_cons, List.map_nil, List.length_cons, List.length_nil, List.cons_append, List.nil_append, List.append_nil, List.getElem?_cons_zero, List.getElem?_cons_succ, List.set_cons_zero, List.set_cons_succ, List.replicate, if_true, if_false, Bool.false_eq_true, Bool.not_true, Bool.not_false, turn_nx]
        exact ih
      | false =>
        left
        refine ⟨i, by rw [if_pos (.inr rfl)], ?_⟩
        simp only [Tp.bind_eq, ret_at, thn_ok, thn_exc, val_eq, var_eq, bin_eq, cmp_eq, asBR_bl, tB_eq, chain_eq, tTruth_eq, truth_bl, tNot_eq, tAnd_nil, tAnd_cons, tOr_nil, tOr_cons, eAnd_one, eAnd_cons, eOr_one, eOr_cons, eNot_eq, eIf_eq, tIf_eq, aNil_eq, aCons_eq, eTup_eq, eLst_eq, eIx_eq, pNo_eq, pAt_eq, eSl_eq, eCall_eq, eCallL_eq, eBlt_eq, eMeth_eq, eAttrX_eq, add_int, sub_int, lt_int, le_int, gt_int, ge_int, eq_int, ne_int, eq_bl, is_bl, is_non, isnot_non, oo_ok, oo_exc, on_nx, on_rt, on_exc, ss_nil, ss_one, ss_cons, sRet_eq, sDrop_eq, sAsg_name, sIf_eq, sRaise_eq, startA, List.map_cons, List.map_nil, List.length_cons, List.length_nil, List.cons_append, List.nil_append, List.append_nil, List.getElem?_cons_zero, List.getElem?_cons_succ, List.set_cons_zero, List.set_cons_succ, List.replicate, if_true, if_false, Bool.false_eq_true, Bool.not_true, Bool.not_false, show (1 : Nat) ≤ SL from by decide, turn_rt]
theorem wrong_in_ok (n : Nat) (x : AV) (h : AHp) (hx : x.dat 51 = true) (hl : ∀ xs, x = .tup xs → xs.length ≤ SL) : callN glob (n + 5) (.fn 4) [x, .int 0, .int 2000, .clo lam_21_43 []] h = .ok (.lst (badO x)) h := by
  rw [wrong_in_eq]
  have hk := dat_kd hx
  have other : isTy x "tuple" = false → badO x = [.non] → callFn false 4 6 (b_wrong_in (callN glob (n + 4))) [x, .int 0, .int 2000, .clo lam_21_43 []] h = .ok (.lst (badO x)) h := fun h1 h2 => by
    refine fn_ok' rfl ?_ ?_
    · simp only [b_wrong_in, Tp.bind_eq, ret_at, thn_ok, thn_exc, val_eq, var_eq, bin_eq, cmp_eq, asBR_bl, tB_eq, chain_eq, tTruth_eq, truth_bl, tNot_eq, tAnd_nil, tAnd_cons, tOr_nil, tOr_cons, eAnd_one, eAnd_cons, eOr_one, eOr_cons, eNot_eq, eIf_eq, tIf_eq, aNil_eq, aCons_eq, eTup_eq, eLst_eq, eIx_eq, pNo_eq, pAt_eq, eSl_eq, eCall_eq, eCallL_eq, eBlt_eq, eMeth_eq, eAttrX_eq, add_int, sub_int, lt_int, le_int, gt_int, ge_int, eq_int, ne_int, eq_bl, is_bl, is_non, isnot_non, oo_ok, oo_exc, on_nx, on_rt, on_exc, ss_nil, ss_one, ss_cons, sRet_eq, sDrop_eq, sAsg_name, sIf_eq, sRaise_eq, startA, List.map_cons, List.map_nil, List.length_cons, List.length_nil, List.cons_append, List.nil_append, List.append_nil, List.getElem?_cons_zero, List.getElem?_cons_succ, List.set_cons_zero, List.set_cons_succ, List.replicate, if_true, if_false, Bool.false_eq_true, Bool.not_true, Bool.not_false, builtin, bIsInst, isInst_ty hk (n := "tuple") rfl, h1, h2, show (1 : Nat) ≤ SL from by decide]
    · rw [h2]; rfl
  cases x <;> first | (cases hk; done) | exact other rfl rfl | skip
  rename_i xs
  have hd : AV.datAll 50 xs = true := by simpa [AV.dat] using hx
  have loop := wrong_loop n xs hd h xs 0 none none rfl
  have it : iEnum (eVar 0) (startA 6 [.tup xs, .int 0, .int 2000, .clo lam_21_43 []]) h = .ok (.items (enumFrom' 0 xs)) h := iEnum_tup rfl
  have hlen : (decide ((xs.length : Int) < 0)) = false := by simp
  rcases loop with ⟨j, hj, e⟩ | ⟨hj, e4, e5, e⟩
  · have hb : badO (.tup xs) = [.int j] := by simp only [badO, hj]
    rw [hb]
    refine fn_ok' rfl ?_ rfl
    simp only [b_wrong_in, Tp.bind_eq, ret_at, thn_ok, thn_exc, val_eq, var_eq, bin_eq, cmp_eq, asBR_bl, tB_eq, chain_eq, tTruth_eq, truth_bl, tNot_eq, tAnd_nil, tAnd_cons, tOr_nil, tOr_cons, eAnd_one, eAnd_cons, eOr_one, eOr_cons, eNot_eq, eIf_eq, tIf_eq, aNil_eq, aCons_eq, eTup_eq, eLst_eq, eIx_eq, pNo_eq, pAt_eq, eSl_eq, eCall_eq, eCallL_eq, eBlt_eq, eMeth_eq, eAttrX_eq, add_int, sub_int, lt_int, le_int, gt_int, ge_int, eq_int, ne_int, eq_bl, is_bl, is_non, isnot_non, oo_ok, oo_exc, on_nx, on_rt, on_exc, ss_nil, ss_one, ss_cons, sRet_eq, sDrop_eq, sAsg_name, sIf_eq, sRaise_eq, startA, List.map_cons, List.map_nil, List.length_cons, List.length_nil, List.cons_append, List.nil_append, List.append_nil, List.getElem?_cons_zero, List.getElem?_cons_succ, List.set_cons_zero, List.set_cons_succ, List.replicate, if_true, if_false, Bool.false_eq_true, Bool.not_true, Bool.not_false, builtin, bIsInst, isInst_ty hk (n := "tuple") rfl, isTy, beq_self_eq_true, bLen, lenOf, seqOf, hlen]
    rw [sFor_items (it := iEnum (eVar 0)) (iEnum_tup rfl)]
    rw [e]
    rfl
  · have hb : badO (.tup xs) = [] := by simp only [badO, hj]
    rw [hb]
    refine fn_ok' rfl ?_ rfl
    simp only [b_wrong_in, Tp.bind_eq, ret_at, thn_ok, thn_exc, val_eq, var_eq, bin_eq, cmp_eq, asBR_bl, tB_eq, chain_eq, tTruth_eq, truth_bl, tNot_eq, tAnd_nil, tAnd_cons, tOr_nil, tOr_cons, eAnd_one, eAnd_cons, eOr_one, eOr_cons, eNot_eq, eIf_eq, tIf_eq, aNil_eq, aCons_eq, eTup_eq, eLst_eq, eIx_eq, pNo_eq, pAt_eq, eSl_eq, eCall_eq, eCallL_eq, eBlt_eq, eMeth_eq, eAttrX_eq, add_int, sub_int, lt_int, le_int, gt_int, ge_int, eq_int, ne_int, eq_bl, is_bl, is_non, isnot_non, oo_ok, oo_exc, on_nx, on_rt, on_exc, ss_nil, ss_one, ss_cons, sRet_eq, sDrop_eq, sAsg_name, sIf_eq, sRaise_eq, startA, List.map_cons, List.map_nil, List.length_cons, List.length_nil, List.cons_append, List.nil_append, List.append_nil, List.getElem?_cons_zero, List.getElem?_cons_succ, List.set_cons_zero, List.set_cons_succ, List.replicate, if_true, if_false, Bool.false_eq_true, Bool.not_true, Bool.not_false, builtin, bIsInst, isInst_ty hk (n := "tuple") rfl, isTy, beq_self_eq_true, bLen, lenOf, seqOf, hlen]
    rw [sFor_items (it := iEnum (eVar 0)) (iEnum_tup rfl)]
    rw [e]
    rfl
theorem badO_cases (x : AV) : badO x = [] ∨ badO x = [.non] ∨ ∃ j : Nat, badO x = [.int j] := by
  cases x <;> first | exact .inr (.inl rfl) | skip
  rename_i xs
  have e : badO (.tup xs) = (match badFrom 0 xs with
    | some j => [.int j]
    | none => []) := rfl
  rw [e]
  cases badFrom 0 xs with
  | none => exact .inl rfl
  | some j => exact .inr (.inr ⟨j, rfl⟩)
theorem badO_noC (x : AV) : AV.noCs (badO x) = true := by
  rcases badO_cases x with e | e | ⟨j, e⟩ <;> rw [e] <;> rfl
theorem badO_pure (x : AV) : AV.pureAll (badO x) = true := by
  rcases badO_cases x with e | e | ⟨j, e⟩ <;> rw [e] <;> rfl
theorem badO_dat (x : AV) (n : Nat) : AV.datAll n (badO x) = true := by
  rcases badO_cases x with e | e | ⟨j, e⟩ <;> rw [e] <;> cases n <;> rfl
theorem wrong_in_octets_ok (n : Nat) (x : AV) (h : AHp) (hx : x.dat 51 = true) (hl : ∀ xs, x = .tup xs → xs.length ≤ SL) : callN glob (n + 6) (.fn 5) [x] h = .ok (.lst (badO x)) h := by
  rw [wrong_in_octets_eq]
  refine fn_ok' rfl ?_ (badO_pure x)
  simp only [b_wrong_in_octets, Tp.bind_eq, ret_at, thn_ok, thn_exc, val_eq, var_eq, bin_eq, cmp_eq, asBR_bl, tB_eq, chain_eq, tTruth_eq, truth_bl, tNot_eq, tAnd_nil, tAnd_cons, tOr_nil, tOr_cons, eAnd_one, eAnd_cons, eOr_one, eOr_cons, eNot_eq, eIf_eq, tIf_eq, aNil_eq, aCons_eq, eTup_eq, eLst_eq, eIx_eq, pNo_eq, pAt_eq, eSl_eq, eCall_eq, eCallL_eq, eBlt_eq, eMeth_eq, eAttrX_eq, add_int, sub_int, lt_int, le_int, gt_int, ge_int, eq_int, ne_int, eq_bl, is_bl, is_non, isnot_non, oo_ok, oo_exc, on_nx, on_rt, on_exc, ss_nil, ss_one, ss_cons, sRet_eq, sDrop_eq, sAsg_name, sIf_eq, sRaise_eq, startA, List.map_cons, List.map_nil, List.length_cons, List.length_nil, List.cons_append, List.nil_append, List.append_nil, List.getElem?_cons_zero, List.getElem?_cons_succ, List.set_cons_zero, List.set_cons_succ, List.replicate, if_true, if_false, Bool.false_eq_true, Bool.not_true, Bool.not_false, caps]
  rw [wrong_in_ok n x h hx hl]
  have : chkC (.ok (.lst (badO x)) h) = .ok (.lst (badO x)) h := by
    show (if AV.noCs (badO x) = true then Res.ok (AV.lst (badO x)) h else .stuck) = _
    rw [if_pos (badO_noC x)]
  rw [this]
  rfl
theorem badO_two (x : AV) : badO x = [] ∨ ∃ w, badO x = [w] := by
  rcases badO_cases x with e | e | ⟨j, e⟩
  · exact .inl e
  · exact .inr ⟨_, e⟩
  · exact .inr ⟨_, e⟩
theorem check_octets_ok (n : Nat) (x : AV) (h : AHp) (hx : x.dat 51 = true) (hl : ∀ xs, x = .tup xs → xs.length ≤ SL) : (badO x = [] → callN glob (n + 7) (.fn 6) [x] h = .ok .non h) ∧ ∀ w, badO x = [w] → callN glob (n + 7) (.fn 6) [x] h = .exc 2 w h := by
  have it : ∀ l, badO x = l → iVal (eCall (callN glob (n + 6)) 5 (aCons (eVar 0) aNil)) (startA 2 [x]) h = .ok (.items l) h := fun l hl' => iVal_lst (by
    simp only [Tp.bind_eq, ret_at, thn_ok, thn_exc, val_eq, var_eq, bin_eq, cmp_eq, asBR_bl, tB_eq, chain_eq, tTruth_eq, truth_bl, tNot_eq, tAnd_nil, tAnd_cons, tOr_nil, tOr_cons, eAnd_one, eAnd_cons, eOr_one, eOr_cons, eNot_eq, eIf_eq, tIf_eq, aNil_eq, aCons_eq, eTup_eq, eLst_eq, eIx_eq, pNo_eq, pAt_eq, eSl_eq, eCall_eq, eCallL_eq, eBlt_eq, eMeth_eq, eAttrX_eq, add_int, sub_int, lt_int, le_int, gt_int, ge_int, eq_int, ne_int, eq_bl, is_bl, is_non, isnot_non, oo_ok, oo_exc, on_nx, on_rt, on_exc, ss_nil, ss_one, ss_cons, sRet_eq, sDrop_eq, sAsg_name, sIf_eq, sRaise_eq, startA, List.map_cons, List.map_nil, List.length_cons, List.length_nil, List.cons_append, List.nil_append, List.append_nil, List.getElem?_cons_zero, List.getElem?_cons_succ, List.set_cons_zero, List.set_cons_succ, List.replicate, if_true, if_false, Bool.false_eq_true, Bool.not_true, Bool.not_false]
    rw [wrong_in_octets_ok n x h hx hl, hl'])
  constructor
  · intro e
    rw [check_octets_eq]
    refine fn_okN (env := startA 2 [x]) rfl ?_
    simp only [b_check_octets, ss_one]
    rw [sFor_items (it _ e)]
    rfl
  · intro w e
    have hw := badO_pure x
    rw [e] at hw
    rw [check_octets_eq]
    refine fn_exc (env := [some x, some w]) rfl ?_ (by simpa [AV.pureAll] using hw)
    simp only [b_check_octets, ss_one]
    rw [sFor_items (it _ e)]
    rfl

def cutB (os put : List AV) (at_ many : Int) : List AV := cut os none (some at_) ++ put ++ cut os (some (at_ + many)) none
def slipV : AV → Bool
  | .tup [a, b, c] => betwV 0 2000 a && betwV 0 2000 b && (badO c).isEmpty
  | _ => false
theorem lstEq_nil (l : List AV) : (AV.lst l).eqv (.lst []) = l.isEmpty := by
  cases l <;> simp [AV.eqv, AV.eqvAll]
theorem is_slip_ok (n : Nat) (x : AV) (h : AHp) (hx : x.dat 52 = true) (hl : ∀ a b xs, x = .tup [a, b, .tup xs] → xs.length ≤ SL) : callN glob (n + 7) (.fn 8) [x] h = .ok (.bl (slipV x)) h := by
  rw [is_slip_eq]
  have hk := dat_kd hx
  refine fn_ok' rfl ?_ rfl
  have e3 := is_tuple_of_ok (n + 5) x 3 h hk
  cases ht : tupLen 3 x with
  | false =>
    have : slipV x = false := by
      cases x <;> try rfl
      rename_i xs
      match xs, ht with
      | [a, b, c], ht => cases ht
      | [], _ => rfl
      | [_], _ => rfl
      | [_, _], _ => rfl
      | _ :: _ :: _ :: _ :: _, _ => rfl
    rw [this]
    rw [ht] at e3
    simp only [b_is_slip, Tp.bind_eq, ret_at, thn_ok, thn_exc, val_eq, var_eq, bin_eq, cmp_eq, asBR_bl, tB_eq, chain_eq, tTruth_eq, truth_bl, tNot_eq, tAnd_nil, tAnd_cons, tOr_nil, tOr_cons, eAnd_one, eAnd_cons, eOr_one, eOr_cons, eNot_eq, eIf_eq, tIf_eq, aNil_eq, aCons_eq, eTup_eq, eLst_eq, eIx_eq, pNo_eq, pAt_eq, eSl_eq, eCall_eq, eCallL_eq, eBlt_eq, eMeth_eq, eAttrX_eq, add_int, sub_int, lt_int, le_int, gt_int, ge_int, eq_int, ne_int, eq_bl, is_bl, is_non, isnot_non, oo_ok, oo_exc, on_nx, on_rt, on_exc, ss_nil, ss_one, ss_cons, sRet_eq, sDrop_eq, sAsg_name, sIf_eq, sRaise_eq, startA, List.map_cons, List.map_nil, List.length_cons, List.length_nil, List.cons_append, List.nil_append, List.append_nil, List.getElem?_cons_zero, List.getElem?_cons_succ, List.set_cons_zero, List.set_cons_succ, List.replicate, if_true, if_false, Bool.false_eq_true, Bool.not_true, Bool.not_false]
    rw [show callN glob (n + 6) (.fn 3) [x, .int 3] h = _ from e3]
    simp only [Tp.bind_eq, ret_at, thn_ok, thn_exc, val_eq, var_eq, bin_eq, cmp_eq, asBR_bl, tB_eq, chain_eq, tTruth_eq, truth_bl, tNot_eq, tAnd_nil, tAnd_cons, tOr_nil, tOr_cons, eAnd_one, eAnd_cons, eOr_one, eOr_cons, eNot_eq, eIf_eq, tIf_eq, aNil_eq, aCons_eq, eTup_eq, eLst_eq, eIx_eq, pNo_eq, pAt_eq, eSl_eq, eCall_eq, eCallL_eq, eBlt_eq, eMeth_eq, eAttrX_eq, add_int, sub_int, lt_int, le_int, gt_int, ge_int, eq_int, ne_int, eq_bl, is_bl, is_non, isnot_non, oo_ok, oo_exc, on_nx, on_rt, on_exc, ss_nil, ss_one, ss_cons, sRet_eq, sDrop_eq, sAsg_name, sIf_eq, sRaise_eq, startA, List.map_cons, List.map_nil, List.length_cons, List.length_nil, List.cons_append, List.nil_append, List.append_nil, List.getElem?_cons_zero, List.getElem?_cons_succ, List.set_cons_zero, List.set_cons_succ, List.replicate, if_true, if_false, Bool.false_eq_true, Bool.not_true, Bool.not_false]
  | true =>
    rw [ht] at e3
    obtain ⟨a, b, c, rfl⟩ : ∃ a b c, x = .tup [a, b, c] := by
      cases x <;> first | (cases ht; done) | skip
      rename_i xs
      match xs, ht with
      | [a, b, c], ht => exact ⟨a, b, c, rfl⟩
    have hd : AV.datAll 51 [a, b, c] = true := by simpa [AV.dat] using hx
    have da := datAll_mem hd a (by simp)
    have db := datAll_mem hd b (by simp)
    have dc := datAll_mem hd c (by simp)
    have i0 : index (.tup [a, b, c]) (.int 0) h = .ok a h := rfl
    have i1 : index (.tup [a, b, c]) (.int 1) h = .ok b h := rfl
    have i2 : index (.tup [a, b, c]) (.int 2) h = .ok c h := rfl
    have ea := is_up_to_ok (n + 3) a 2000 h (dat_kd da)
    have eb := is_up_to_ok (n + 3) b 2000 h (dat_kd db)
    have ec := wrong_in_octets_ok n c h dc (fun xs e => hl a b xs (by rw [e]))
    have hs : slipV (.tup [a, b, c]) = (betwV 0 2000 a && betwV 0 2000 b && (badO c).isEmpty) := rfl
    simp only [b_is_slip, Tp.bind_eq, ret_at, thn_ok, thn_exc, val_eq, var_eq, bin_eq, cmp_eq, asBR_bl, tB_eq, chain_eq, tTruth_eq, truth_bl, tNot_eq, tAnd_nil, tAnd_cons, tOr_nil, tOr_cons, eAnd_one, eAnd_cons, eOr_one, eOr_cons, eNot_eq, eIf_eq, tIf_eq, aNil_eq, aCons_eq, eTup_eq, eLst_eq, eIx_eq, pNo_eq, pAt_eq, eSl_eq, eCall_eq, eCallL_eq, eBlt_eq, eMeth_eq, eAttrX_eq, add_int, sub_int, lt_int, le_int, gt_int, ge_int, eq_int, ne_int, eq_bl, is_bl, is_non, isnot_non, oo_ok, oo_exc, on_nx, on_rt, on_exc, ss_nil, ss_one, ss_cons, sRet_eq, sDrop_eq, sAsg_name, sIf_eq, sRaise_eq, startA, List.map_cons, List.map_nil, List.length_cons, List.length_nil, List.cons_append, List.nil_append, List.append_nil, List.getElem?_cons_zero, List.getElem?_cons_succ, List.set_cons_zero, List.set_cons_succ, List.replicate, if_true, if_false, Bool.false_eq_true, Bool.not_true, Bool.not_false]
    rw [show callN glob (n + 6) (.fn 3) [.tup [a, b, c], .int 3] h = _ from e3]
    simp only [Tp.bind_eq, ret_at, thn_ok, thn_exc, val_eq, var_eq, bin_eq, cmp_eq, asBR_bl, tB_eq, chain_eq, tTruth_eq, truth_bl, tNot_eq, tAnd_nil, tAnd_cons, tOr_nil, tOr_cons, eAnd_one, eAnd_cons, eOr_one, eOr_cons, eNot_eq, eIf_eq, tIf_eq, aNil_eq, aCons_eq, eTup_eq, eLst_eq, eIx_eq, pNo_eq, pAt_eq, eSl_eq, eCall_eq, eCallL_eq, eBlt_eq, eMeth_eq, eAttrX_eq, add_int, sub_int, lt_int, le_int, gt_int, ge_int, eq_int, ne_int, eq_bl, is_bl, is_non, isnot_non, oo_ok, oo_exc, on_nx, on_rt, on_exc, ss_nil, ss_one, ss_cons, sRet_eq, sDrop_eq, sAsg_name, sIf_eq, sRaise_eq, startA, List.map_cons, List.map_nil, List.length_cons, List.length_nil, List.cons_append, List.nil_append, List.append_nil, List.getElem?_cons_zero, List.getElem?_cons_succ, List.set_cons_zero, List.set_cons_succ, List.replicate, if_true, if_false, Bool.false_eq_true, Bool.not_true, Bool.not_false, i0, i1, i2]
    rw [show callN glob (n + 6) (.fn 2) [a, .int 2000] h = _ from ea, hs]
    cases betwV 0 2000 a with
    | false => simp only [Tp.bind_eq, ret_at, thn_ok, thn_exc, val_eq, var_eq, bin_eq, cmp_eq, asBR_bl, tB_eq, chain_eq, tTruth_eq, truth_bl, tNot_eq, tAnd_nil, tAnd_cons, tOr_nil, tOr_cons, eAnd_one, eAnd_cons, eOr_one, eOr_cons, eNot_eq, eIf_eq, tIf_eq, aNil_eq, aCons_eq, eTup_eq, eLst_eq, eIx_eq, pNo_eq, pAt_eq, eSl_eq, eCall_eq, eCallL_eq, eBlt_eq, eMeth_eq, eAttrX_eq, add_int, sub_int, lt_int, le_int, gt_int, ge_int, eq_int, ne_int, eq_bl, is_bl, is_non, isnot_non, oo_ok, oo_exc, on_nx, on_rt, on_exc, ss_nil, ss_one, ss_cons, sRet_eq, sDrop_eq, sAsg_name, sIf_eq, sRaise_eq, startA, List.map_cons, List.map_nil, List.length_cons, List.length_nil, List.cons_append, List.nil_append, List.append_nil, List.getElem?_cons_zero, List.getElem?_cons_succ, List.set_cons_zero, List.set_cons_succ, List.replicate, if_true, if_false, Bool.false_eq_true, Bool.not_true, Bool.not_false, Bool.false_and]
    | true =>
      simp only [Tp.bind_eq, ret_at, thn_ok, thn_exc, val_eq, var_eq, bin_eq, cmp_eq, asBR_bl, tB_eq, chain_eq, tTruth_eq, truth_bl, tNot_eq, tAnd_nil, tAnd_cons, tOr_nil, tOr_cons, eAnd_one, eAnd_cons, eOr_one, eOr_cons, eNot_eq, eIf_eq, tIf_eq, aNil_eq, aCons_eq, eTup_eq, eLst_eq, eIx_eq, pNo_eq, pAt_eq, eSl_eq, eCall_eq, eCallL_eq, eBlt_eq, eMeth_eq, eAttrX_eq, add_int, sub_int, lt_int, le_int, gt_int, ge_int, eq_int, ne_int, eq_bl, is_bl, is_non, isnot_non, oo_ok, oo_exc, on_nx, on_rt, on_exc, ss_nil, ss_one, ss_cons, sRet_eq, sDrop_eq, sAsg_name, sIf_eq, sRaise_eq, startA, List.map_cons, List.map_nil, List.length_cons, List.length_nil, List.cons_append, List.nil_append, List.append_nil, List.getElem?_cons_zero, List.getElem?_cons_succ, List.set_cons_zero, List.set_cons_succ, List.replicate, if_true, if_false, Bool.false_eq_true, Bool.not_true, Bool.not_false, i0, i1, i2]
      rw [show callN glob (n + 6) (.fn 2) [b, .int 2000] h = _ from eb]
      cases betwV 0 2000 b with
      | false => simp only [Tp.bind_eq, ret_at, thn_ok, thn_exc, val_eq, var_eq, bin_eq, cmp_eq, asBR_bl, tB_eq, chain_eq, tTruth_eq, truth_bl, tNot_eq, tAnd_nil, tAnd_cons, tOr_nil, tOr_cons, eAnd_one, eAnd_cons, eOr_one, eOr_cons, eNot_eq, eIf_eq, tIf_eq, aNil_eq, aCons_eq, eTup_eq, eLst_eq, eIx_eq, pNo_eq, pAt_eq, eSl_eq, eCall_eq, eCallL_eq, eBlt_eq, eMeth_eq, eAttrX_eq, add_int, sub_int, lt_int, le_int, gt_int, ge_int, eq_int, ne_int, eq_bl, is_bl, is_non, isnot_non, oo_ok, oo_exc, on_nx, on_rt, on_exc, ss_nil, ss_one, ss_cons, sRet_eq, sDrop_eq, sAsg_name, sIf_eq, sRaise_eq, startA, List.map_cons, List.map_nil, List.length_cons, List.length_nil, List.cons_append, List.nil_append, List.append_nil, List.getElem?_cons_zero, List.getElem?_cons_succ, List.set_cons_zero, List.set_cons_succ, List.replicate, if_true, if_false, Bool.false_eq_true, Bool.not_true, Bool.not_false, Bool.false_and, Bool.and_false]
      | true =>
        simp only [Tp.bind_eq, ret_at, thn_ok, thn_exc, val_eq, var_eq, bin_eq, cmp_eq, asBR_bl, tB_eq, chain_eq, tTruth_eq, truth_bl, tNot_eq, tAnd_nil, tAnd_cons, tOr_nil, tOr_cons, eAnd_one, eAnd_cons, eOr_one, eOr_cons, eNot_eq, eIf_eq, tIf_eq, aNil_eq, aCons_eq, eTup_eq, eLst_eq, eIx_eq, pNo_eq, pAt_eq, eSl_eq, eCall_eq, eCallL_eq, eBlt_eq, eMeth_eq, eAttrX_eq, add_int, sub_int, lt_int, le_int, gt_int, ge_int, eq_int, ne_int, eq_bl, is_bl, is_non, isnot_non, oo_ok, oo_exc, on_nx, on_rt, on_exc, ss_nil, ss_one, ss_cons, sRet_eq, sDrop_eq, sAsg_name, sIf_eq, sRaise_eq, startA, List.map_cons, List.map_nil, List.length_cons, List.length_nil, List.cons_append, List.nil_append, List.append_nil, List.getElem?_cons_zero, List.getElem?_cons_succ, List.set_cons_zero, List.set_cons_succ, List.replicate, if_true, if_false, Bool.false_eq_true, Bool.not_true, Bool.not_false, i0, i1, i2, ec, Nat.zero_le]
        rw [eq_dat (x := .lst (badO c)) (y := .lst []) (badO_dat c 59) rfl, lstEq_nil]
        simp only [Tp.bind_eq, ret_at, thn_ok, thn_exc, val_eq, var_eq, bin_eq, cmp_eq, asBR_bl, tB_eq, chain_eq, tTruth_eq, truth_bl, tNot_eq, tAnd_nil, tAnd_cons, tOr_nil, tOr_cons, eAnd_one, eAnd_cons, eOr_one, eOr_cons, eNot_eq, eIf_eq, tIf_eq, aNil_eq, aCons_eq, eTup_eq, eLst_eq, eIx_eq, pNo_eq, pAt_eq, eSl_eq, eCall_eq, eCallL_eq, eBlt_eq, eMeth_eq, eAttrX_eq, add_int, sub_int, lt_int, le_int, gt_int, ge_int, eq_int, ne_int, eq_bl, is_bl, is_non, isnot_non, oo_ok, oo_exc, on_nx, on_rt, on_exc, ss_nil, ss_one, ss_cons, sRet_eq, sDrop_eq, sAsg_name, sIf_eq, sRaise_eq, startA, List.map_cons, List.map_nil, List.length_cons, List.length_nil, List.cons_append, List.nil_append, List.append_nil, List.getElem?_cons_zero, List.getElem?_cons_succ, List.set_cons_zero, List.set_cons_succ, List.replicate, if_true, if_false, Bool.false_eq_true, Bool.not_true, Bool.not_false, Bool.true_and]

def fitsV (m : Nat) : AV → Bool
  | .tup [.int a, .int b, _] => decide (a + b ≤ m)
  | _ => false
theorem betw_int {a b : Int} {x : AV} (h : betwV a b x = true) : ∃ i, x = .int i ∧ a ≤ i ∧ i ≤ b := by
  cases x <;> first | (cases h; done) | skip
  rename_i i
  simp only [betwV, Bool.and_eq_true, decide_eq_true_eq] at h
  exact ⟨i, rfl, h⟩
theorem slip_parts {x : AV} (h : slipV x = true) : ∃ a b c, x = .tup [.int a, .int b, .tup c] ∧ 0 ≤ a ∧ a ≤ 2000 ∧ 0 ≤ b ∧ b ≤ 2000 ∧ badO (.tup c) = [] := by
  unfold slipV at h
  split at h
  · rename_i a b c
    simp only [Bool.and_eq_true, List.isEmpty_iff] at h
    obtain ⟨⟨h1, h2⟩, h3⟩ := h
    obtain ⟨i, rfl, h4, h5⟩ := betw_int h1
    obtain ⟨j, rfl, h6, h7⟩ := betw_int h2
    cases c <;> first | (cases h3; done) | exact ⟨i, j, _, rfl, h4, h5, h6, h7, h3⟩
  · cases h
theorem is_slip_of_ok (n : Nat) (os : List AV) (x : AV) (h : AHp) (hx : x.dat 52 = true) (hl : ∀ a b xs, x = .tup [a, b, .tup xs] → xs.length ≤ SL) : callN glob (n + 8) (.fn 9) [.tup os, x] h = .ok (.bl (slipV x && fitsV os.length x)) h := by
  rw [is_slip_of_eq]
  refine fn_ok' rfl ?_ rfl
  have es := is_slip_ok n x h hx hl
  simp only [b_is_slip_of, Tp.bind_eq, ret_at, thn_ok, thn_exc, val_eq, var_eq, bin_eq, cmp_eq, asBR_bl, tB_eq, chain_eq, tTruth_eq, truth_bl, tNot_eq, tAnd_nil, tAnd_cons, tOr_nil, tOr_cons, eAnd_one, eAnd_cons, eOr_one, eOr_cons, eNot_eq, eIf_eq, tIf_eq, aNil_eq, aCons_eq, eTup_eq, eLst_eq, eIx_eq, pNo_eq, pAt_eq, eSl_eq, eCall_eq, eCallL_eq, eBlt_eq, eMeth_eq, eAttrX_eq, add_int, sub_int, lt_int, le_int, gt_int, ge_int, eq_int, ne_int, eq_bl, is_bl, is_non, isnot_non, oo_ok, oo_exc, on_nx, on_rt, on_exc, ss_nil, ss_one, ss_cons, sRet_eq, sDrop_eq, sAsg_name, sIf_eq, sRaise_eq, startA, List.map_cons, List.map_nil, List.length_cons, List.length_nil, List.cons_append, List.nil_append, List.append_nil, List.getElem?_cons_zero, List.getElem?_cons_succ, List.set_cons_zero, List.set_cons_succ, List.replicate, if_true, if_false, Bool.false_eq_true, Bool.not_true, Bool.not_false]
  rw [es]
  cases hs : slipV x with
  | false => simp only [Tp.bind_eq, ret_at, thn_ok, thn_exc, val_eq, var_eq, bin_eq, cmp_eq, asBR_bl, tB_eq, chain_eq, tTruth_eq, truth_bl, tNot_eq, tAnd_nil, tAnd_cons, tOr_nil, tOr_cons, eAnd_one, eAnd_cons, eOr_one, eOr_cons, eNot_eq, eIf_eq, tIf_eq, aNil_eq, aCons_eq, eTup_eq, eLst_eq, eIx_eq, pNo_eq, pAt_eq, eSl_eq, eCall_eq, eCallL_eq, eBlt_eq, eMeth_eq, eAttrX_eq, add_int, sub_int, lt_int, le_int, gt_int, ge_int, eq_int, ne_int, eq_bl, is_bl, is_non, isnot_non, oo_ok, oo_exc, on_nx, on_rt, on_exc, ss_nil, ss_one, ss_cons, sRet_eq, sDrop_eq, sAsg_name, sIf_eq, sRaise_eq, startA, List.map_cons, List.map_nil, List.length_cons, List.length_nil, List.cons_append, List.nil_append, List.append_nil, List.getElem?_cons_zero, List.getElem?_cons_succ, List.set_cons_zero, List.set_cons_succ, List.replicate, if_true, if_false, Bool.false_eq_true, Bool.not_true, Bool.not_false, Bool.false_and]
  | true =>
    obtain ⟨a, b, c, rfl, _⟩ := slip_parts hs
    have i0 : index (.tup [.int a, .int b, .tup c]) (.int 0) h = .ok (.int a) h := rfl
    have i1 : index (.tup [.int a, .int b, .tup c]) (.int 1) h = .ok (.int b) h := rfl
    simp only [Tp.bind_eq, ret_at, thn_ok, thn_exc, val_eq, var_eq, bin_eq, cmp_eq, asBR_bl, tB_eq, chain_eq, tTruth_eq, truth_bl, tNot_eq, tAnd_nil, tAnd_cons, tOr_nil, tOr_cons, eAnd_one, eAnd_cons, eOr_one, eOr_cons, eNot_eq, eIf_eq, tIf_eq, aNil_eq, aCons_eq, eTup_eq, eLst_eq, eIx_eq, pNo_eq, pAt_eq, eSl_eq, eCall_eq, eCallL_eq, eBlt_eq, eMeth_eq, eAttrX_eq, add_int, sub_int, lt_int, le_int, gt_int, ge_int, eq_int, ne_int, eq_bl, is_bl, is_non, isnot_non, oo_ok, oo_exc, on_nx, on_rt, on_exc, ss_nil, ss_one, ss_cons, sRet_eq, sDrop_eq, sAsg_name, sIf_eq, sRaise_eq, startA, List.map_cons, List.map_nil, List.length_cons, List.length_nil, List.cons_append, List.nil_append, List.append_nil, List.getElem?_cons_zero, List.getElem?_cons_succ, List.set_cons_zero, List.set_cons_succ, List.replicate, if_true, if_false, Bool.false_eq_true, Bool.not_true, Bool.not_false, i0, i1, builtin, bLen, lenOf, seqOf, Bool.true_and, fitsV]
theorem changed_by_ok (n : Nat) (os put : List AV) (a b : Int) (h : AHp) (hp : AV.pureAll os = true) (hq : AV.pureAll put = true) (hl : 2 * os.length + put.length ≤ SL) : callN glob (n + 1) (.fn 7) [.tup os, .tup [.int a, .int b, .tup put]] h = .ok (.tup (cutB os put a b)) h := by
  rw [changed_by_eq]
  refine fn_ok' rfl ?_ (pureAll_app (pureAll_app (cut_pure hp) hq) (cut_pure hp))
  simp only [b_changed_by, Tp.bind_eq, ret_at, thn_ok, thn_exc, val_eq, var_eq, bin_eq, cmp_eq, asBR_bl, tB_eq, chain_eq, tTruth_eq, truth_bl, tNot_eq, tAnd_nil, tAnd_cons, tOr_nil, tOr_cons, eAnd_one, eAnd_cons, eOr_one, eOr_cons, eNot_eq, eIf_eq, tIf_eq, aNil_eq, aCons_eq, eTup_eq, eLst_eq, eIx_eq, pNo_eq, pAt_eq, eSl_eq, eCall_eq, eCallL_eq, eBlt_eq, eMeth_eq, eAttrX_eq, add_int, sub_int, lt_int, le_int, gt_int, ge_int, eq_int, ne_int, eq_bl, is_bl, is_non, isnot_non, oo_ok, oo_exc, on_nx, on_rt, on_exc, ss_nil, ss_one, ss_cons, sRet_eq, sDrop_eq, sAsg_name, sIf_eq, sRaise_eq, startA, List.map_cons, List.map_nil, List.length_cons, List.length_nil, List.cons_append, List.nil_append, List.append_nil, List.getElem?_cons_zero, List.getElem?_cons_succ, List.set_cons_zero, List.set_cons_succ, List.replicate, if_true, if_false, Bool.false_eq_true, Bool.not_true, Bool.not_false, sAsg_eq, gTup_tup, gAll_cons, gAll_nil, gName_eq, slice]
  have l1 := cut_le os none (some a)
  have l2 := cut_le os (some (a + b)) none
  rw [add_tup (by omega)]
  simp only [Tp.bind_eq, ret_at, thn_ok, thn_exc, val_eq, var_eq, bin_eq, cmp_eq, asBR_bl, tB_eq, chain_eq, tTruth_eq, truth_bl, tNot_eq, tAnd_nil, tAnd_cons, tOr_nil, tOr_cons, eAnd_one, eAnd_cons, eOr_one, eOr_cons, eNot_eq, eIf_eq, tIf_eq, aNil_eq, aCons_eq, eTup_eq, eLst_eq, eIx_eq, pNo_eq, pAt_eq, eSl_eq, eCall_eq, eCallL_eq, eBlt_eq, eMeth_eq, eAttrX_eq, add_int, sub_int, lt_int, le_int, gt_int, ge_int, eq_int, ne_int, eq_bl, is_bl, is_non, isnot_non, oo_ok, oo_exc, on_nx, on_rt, on_exc, ss_nil, ss_one, ss_cons, sRet_eq, sDrop_eq, sAsg_name, sIf_eq, sRaise_eq, startA, List.map_cons, List.map_nil, List.length_cons, List.length_nil, List.cons_append, List.nil_append, List.append_nil, List.getElem?_cons_zero, List.getElem?_cons_succ, List.set_cons_zero, List.set_cons_succ, List.replicate, if_true, if_false, Bool.false_eq_true, Bool.not_true, Bool.not_false]
  rw [add_tup (by rw [List.length_append]; omega)]
  rfl
theorem cutB_pure {os put : List AV} {a b : Int} (hp : AV.pureAll os = true) (hq : AV.pureAll put = true) : (AV.tup (cutB os put a b)).pure = true := pureAll_app (pureAll_app (cut_pure hp) hq) (cut_pure hp)
theorem with_slip_bad (n : Nat) (x s w : AV) (h : AHp) (hx : x.dat 51 = true) (hl : ∀ xs, x = .tup xs → xs.length ≤ SL) (hs : s.noX = true) (hb : badO x = [w]) : callN glob (n + 9) (.fn 10) [x, s] h = .exc 2 w h := by
  have hw := badO_pure x
  rw [hb] at hw
  rw [with_slip_eq]
  refine fn_exc (env := startA 2 [x, s]) rfl ?_ (by simpa [AV.pureAll] using hw)
  simp only [b_with_slip, Tp.bind_eq, ret_at, thn_ok, thn_exc, val_eq, var_eq, bin_eq, cmp_eq, asBR_bl, tB_eq, chain_eq, tTruth_eq, truth_bl, tNot_eq, tAnd_nil, tAnd_cons, tOr_nil, tOr_cons, eAnd_one, eAnd_cons, eOr_one, eOr_cons, eNot_eq, eIf_eq, tIf_eq, aNil_eq, aCons_eq, eTup_eq, eLst_eq, eIx_eq, pNo_eq, pAt_eq, eSl_eq, eCall_eq, eCallL_eq, eBlt_eq, eMeth_eq, eAttrX_eq, add_int, sub_int, lt_int, le_int, gt_int, ge_int, eq_int, ne_int, eq_bl, is_bl, is_non, isnot_non, oo_ok, oo_exc, on_nx, on_rt, on_exc, ss_nil, ss_one, ss_cons, sRet_eq, sDrop_eq, sAsg_name, sIf_eq, sRaise_eq, startA, List.map_cons, List.map_nil, List.length_cons, List.length_nil, List.cons_append, List.nil_append, List.append_nil, List.getElem?_cons_zero, List.getElem?_cons_succ, List.set_cons_zero, List.set_cons_succ, List.replicate, if_true, if_false, Bool.false_eq_true, Bool.not_true, Bool.not_false]
  rw [(check_octets_ok (n + 1) x h hx hl).2 w hb]
  simp only [Tp.bind_eq, ret_at, thn_ok, thn_exc, val_eq, var_eq, bin_eq, cmp_eq, asBR_bl, tB_eq, chain_eq, tTruth_eq, truth_bl, tNot_eq, tAnd_nil, tAnd_cons, tOr_nil, tOr_cons, eAnd_one, eAnd_cons, eOr_one, eOr_cons, eNot_eq, eIf_eq, tIf_eq, aNil_eq, aCons_eq, eTup_eq, eLst_eq, eIx_eq, pNo_eq, pAt_eq, eSl_eq, eCall_eq, eCallL_eq, eBlt_eq, eMeth_eq, eAttrX_eq, add_int, sub_int, lt_int, le_int, gt_int, ge_int, eq_int, ne_int, eq_bl, is_bl, is_non, isnot_non, oo_ok, oo_exc, on_nx, on_rt, on_exc, ss_nil, ss_one, ss_cons, sRet_eq, sDrop_eq, sAsg_name, sIf_eq, sRaise_eq, startA, List.map_cons, List.map_nil, List.length_cons, List.length_nil, List.cons_append, List.nil_append, List.append_nil, List.getElem?_cons_zero, List.getElem?_cons_succ, List.set_cons_zero, List.set_cons_succ, List.replicate, if_true, if_false, Bool.false_eq_true, Bool.not_true, Bool.not_false]
def laid (os : List AV) : AV → AHp → Res AV
  | .tup [.int a, .int b, .tup put], h => .ok (.tup (cutB os put a b)) h
  | _, _ => .stuck
theorem with_slip_ok (n : Nat) (os : List AV) (s : AV) (h : AHp) (hx : AV.datAll 50 os = true) (hl : os.length ≤ 100000) (hs : s.dat 52 = true) (hsl : ∀ a b xs, s = .tup [a, b, .tup xs] → xs.length ≤ 100000) (hb : badO (.tup os) = []) :
    callN glob (n + 9) (.fn 10) [.tup os, s] h = if slipV s && fitsV os.length s then laid os s h else .exc 1 s h := by
  have e1 := (check_octets_ok (n + 1) (.tup os) h (by simpa [AV.dat] using hx) (fun xs e => by cases e; exact Nat.le_trans hl (by decide))).1 hb
  have e2 := is_slip_of_ok n os s h hs (fun a b xs e => Nat.le_trans (hsl a b xs e) (by decide))
  rw [with_slip_eq]
  cases hc : slipV s && fitsV os.length s with
  | false =>
    rw [hc] at e2
    rw [if_neg Bool.false_ne_true]
    refine fn_exc (env := startA 2 [.tup os, s]) rfl ?_ (dat_pure hs)
    simp only [b_with_slip, Tp.bind_eq, ret_at, thn_ok, thn_exc, val_eq, var_eq, bin_eq, cmp_eq, asBR_bl, tB_eq, chain_eq, tTruth_eq, truth_bl, tNot_eq, tAnd_nil, tAnd_cons, tOr_nil, tOr_cons, eAnd_one, eAnd_cons, eOr_one, eOr_cons, eNot_eq, eIf_eq, tIf_eq, aNil_eq, aCons_eq, eTup_eq, eLst_eq, eIx_eq, pNo_eq, pAt_eq, eSl_eq, eCall_eq, eCallL_eq, eBlt_eq, eMeth_eq, eAttrX_eq, add_int, sub_int, lt_int, le_int, gt_int, ge_int, eq_int, ne_int, eq_bl, is_bl, is_non, isnot_non, oo_ok, oo_exc, on_nx, on_rt, on_exc, ss_nil, ss_one, ss_cons, sRet_eq, sDrop_eq, sAsg_name, sIf_eq, sRaise_eq, startA, List.map_cons, List.map_nil, List.length_cons, List.length_nil, List.cons_append, List.nil_append, List.append_nil, List.getElem?_cons_zero, List.getElem?_cons_succ, List.set_cons_zero, List.set_cons_succ, List.replicate, if_true, if_false, Bool.false_eq_true, Bool.not_true, Bool.not_false]
    rw [e1]
    simp only [Tp.bind_eq, ret_at, thn_ok, thn_exc, val_eq, var_eq, bin_eq, cmp_eq, asBR_bl, tB_eq, chain_eq, tTruth_eq, truth_bl, tNot_eq, tAnd_nil, tAnd_cons, tOr_nil, tOr_cons, eAnd_one, eAnd_cons, eOr_one, eOr_cons, eNot_eq, eIf_eq, tIf_eq, aNil_eq, aCons_eq, eTup_eq, eLst_eq, eIx_eq, pNo_eq, pAt_eq, eSl_eq, eCall_eq, eCallL_eq, eBlt_eq, eMeth_eq, eAttrX_eq, add_int, sub_int, lt_int, le_int, gt_int, ge_int, eq_int, ne_int, eq_bl, is_bl, is_non, isnot_non, oo_ok, oo_exc, on_nx, on_rt, on_exc, ss_nil, ss_one, ss_cons, sRet_eq, sDrop_eq, sAsg_name, sIf_eq, sRaise_eq, startA, List.map_cons, List.map_nil, List.length_cons, List.length_nil, List.cons_append, List.nil_append, List.append_nil, List.getElem?_cons_zero, List.getElem?_cons_succ, List.set_cons_zero, List.set_cons_succ, List.replicate, if_true, if_false, Bool.false_eq_true, Bool.not_true, Bool.not_false]
    rw [e2]
    simp only [Tp.bind_eq, ret_at, thn_ok, thn_exc, val_eq, var_eq, bin_eq, cmp_eq, asBR_bl, tB_eq, chain_eq, tTruth_eq, truth_bl, tNot_eq, tAnd_nil, tAnd_cons, tOr_nil, tOr_cons, eAnd_one, eAnd_cons, eOr_one, eOr_cons, eNot_eq, eIf_eq, tIf_eq, aNil_eq, aCons_eq, eTup_eq, eLst_eq, eIx_eq, pNo_eq, pAt_eq, eSl_eq, eCall_eq, eCallL_eq, eBlt_eq, eMeth_eq, eAttrX_eq, add_int, sub_int, lt_int, le_int, gt_int, ge_int, eq_int, ne_int, eq_bl, is_bl, is_non, isnot_non, oo_ok, oo_exc, on_nx, on_rt, on_exc, ss_nil, ss_one, ss_cons, sRet_eq, sDrop_eq, sAsg_name, sIf_eq, sRaise_eq, startA, List.map_cons, List.map_nil, List.length_cons, List.length_nil, List.cons_append, List.nil_append, List.append_nil, List.getElem?_cons_zero, List.getElem?_cons_succ, List.set_cons_zero, List.set_cons_succ, List.replicate, if_true, if_false, Bool.false_eq_true, Bool.not_true, Bool.not_false]
  | true =>
    rw [hc] at e2
    rw [if_pos rfl]
    simp only [Bool.and_eq_true] at hc
    obtain ⟨a, b, c, rfl, _⟩ := slip_parts hc.1
    have hd : AV.datAll 51 [.int a, .int b, .tup c] = true := by simpa [AV.dat] using hs
    have hc2 := hsl _ _ _ rfl
    have e3 := changed_by_ok (n + 7) os c a b h (datAll_pure hx) (datAll_pure (n := 50) (by simpa [AV.dat] using datAll_mem hd (.tup c) (by simp))) (by
      have : (SL : Nat) = 16777216 := rfl
      omega)
    have hp : (AV.tup (cutB os c a b)).pure = true := cutB_pure (datAll_pure hx) (datAll_pure (n := 50) (by simpa [AV.dat] using datAll_mem hd (.tup c) (by simp)))
    refine fn_ok' rfl ?_ hp
    simp only [b_with_slip, Tp.bind_eq, ret_at, thn_ok, thn_exc, val_eq, var_eq, bin_eq, cmp_eq, asBR_bl, tB_eq, chain_eq, tTruth_eq, truth_bl, tNot_eq, tAnd_nil, tAnd_cons, tOr_nil, tOr_cons, eAnd_one, eAnd_cons, eOr_one, eOr_cons, eNot_eq, eIf_eq, tIf_eq, aNil_eq, aCons_eq, eTup_eq, eLst_eq, eIx_eq, pNo_eq, pAt_eq, eSl_eq, eCall_eq, eCallL_eq, eBlt_eq, eMeth_eq, eAttrX_eq, add_int, sub_int, lt_int, le_int, gt_int, ge_int, eq_int, ne_int, eq_bl, is_bl, is_non, isnot_non, oo_ok, oo_exc, on_nx, on_rt, on_exc, ss_nil, ss_one, ss_cons, sRet_eq, sDrop_eq, sAsg_name, sIf_eq, sRaise_eq, startA, List.map_cons, List.map_nil, List.length_cons, List.length_nil, List.cons_append, List.nil_append, List.append_nil, List.getElem?_cons_zero, List.getElem?_cons_succ, List.set_cons_zero, List.set_cons_succ, List.replicate, if_true, if_false, Bool.false_eq_true, Bool.not_true, Bool.not_false]
    rw [e1]
    simp only [Tp.bind_eq, ret_at, thn_ok, thn_exc, val_eq, var_eq, bin_eq, cmp_eq, asBR_bl, tB_eq, chain_eq, tTruth_eq, truth_bl, tNot_eq, tAnd_nil, tAnd_cons, tOr_nil, tOr_cons, eAnd_one, eAnd_cons, eOr_one, eOr_cons, eNot_eq, eIf_eq, tIf_eq, aNil_eq, aCons_eq, eTup_eq, eLst_eq, eIx_eq, pNo_eq, pAt_eq, eSl_eq, eCall_eq, eCallL_eq, eBlt_eq, eMeth_eq, eAttrX_eq, add_int, sub_int, lt_int, le_int, gt_int, ge_int, eq_int, ne_int, eq_bl, is_bl, is_non, isnot_non, oo_ok, oo_exc, on_nx, on_rt, on_exc, ss_nil, ss_one, ss_cons, sRet_eq, sDrop_eq, sAsg_name, sIf_eq, sRaise_eq, startA, List.map_cons, List.map_nil, List.length_cons, List.length_nil, List.cons_append, List.nil_append, List.append_nil, List.getElem?_cons_zero, List.getElem?_cons_succ, List.set_cons_zero, List.set_cons_succ, List.replicate, if_true, if_false, Bool.false_eq_true, Bool.not_true, Bool.not_false]
    rw [e2]
    simp only [Tp.bind_eq, ret_at, thn_ok, thn_exc, val_eq, var_eq, bin_eq, cmp_eq, asBR_bl, tB_eq, chain_eq, tTruth_eq, truth_bl, tNot_eq, tAnd_nil, tAnd_cons, tOr_nil, tOr_cons, eAnd_one, eAnd_cons, eOr_one, eOr_cons, eNot_eq, eIf_eq, tIf_eq, aNil_eq, aCons_eq, eTup_eq, eLst_eq, eIx_eq, pNo_eq, pAt_eq, eSl_eq, eCall_eq, eCallL_eq, eBlt_eq, eMeth_eq, eAttrX_eq, add_int, sub_int, lt_int, le_int, gt_int, ge_int, eq_int, ne_int, eq_bl, is_bl, is_non, isnot_non, oo_ok, oo_exc, on_nx, on_rt, on_exc, ss_nil, ss_one, ss_cons, sRet_eq, sDrop_eq, sAsg_name, sIf_eq, sRaise_eq, startA, List.map_cons, List.map_nil, List.length_cons, List.length_nil, List.cons_append, List.nil_append, List.append_nil, List.getElem?_cons_zero, List.getElem?_cons_succ, List.set_cons_zero, List.set_cons_succ, List.replicate, if_true, if_false, Bool.false_eq_true, Bool.not_true, Bool.not_false]
    rw [e3]
    rfl
end Tp
end
section
set_option linter.all false
set_option maxRecDepth 100000
namespace Tp
open PySem PySem.Spec PyProof.Rows

theorem draw_ok (n L k : Nat) (lim : Int) (h : AHp) (w : Wells L h) (hk : k < L) (h0 : 0 < lim) (h1 : lim < 1073741824) : ∃ (f : Int) (h' : AHp), callN glob (n + 1) (.fn 12) [.ref k, .int lim] h = .ok (.int f) h' ∧ Wells L h' ∧ 0 ≤ f ∧ f < lim := by
  obtain ⟨a, b, c, hw⟩ := w.2 k hk
  have hkl : k < h.length := by rw [w.1]; exact hk
  rw [_law_draw_eq]
  have i0 : index (.ref k) (.int 0) h = .ok (.int a) h := ix_ref hw rfl
  have i1 : index (.ref k) (.int 1) h = .ok (.int b) h := ix_ref hw rfl
  have i2 : index (.ref k) (.int 2) h = .ok (.int c) h := ix_ref hw rfl
  by_cases hp : 0 < a
  · refine ⟨a % lim, h.set k (.lst [.int (a / lim), .int b, .int c]), ?_, w.set, Int.emod_nonneg _ (by omega), Int.emod_lt_of_pos _ h0⟩
    refine fn_okH rfl ?_ rfl (by rw [List.length_set])
    simp only [b__law_draw, Tp.bind_eq, ret_at, thn_ok, thn_exc, val_eq, var_eq, bin_eq, cmp_eq, asBR_bl, tB_eq, chain_eq, tTruth_eq, truth_bl, tNot_eq, tAnd_nil, tAnd_cons, tOr_nil, tOr_cons, eAnd_one, eAnd_cons, eOr_one, eOr_cons, eNot_eq, eIf_eq, tIf_eq, aNil_eq, aCons_eq, eTup_eq, eLst_eq, eIx_eq, pNo_eq, pAt_eq, eSl_eq, eCall_eq, eCallL_eq, eBlt_eq, eMeth_eq, eAttrX_eq, add_int, sub_int, lt_int, le_int, gt_int, ge_int, eq_int, ne_int, eq_bl, is_bl, is_non, isnot_non, oo_ok, oo_exc, on_nx, on_rt, on_exc, ss_nil, ss_one, ss_cons, sRet_eq, sDrop_eq, sAsg_name, sIf_eq, sRaise_eq, startA, List.map_cons, List.map_nil, List.length_cons, List.length_nil, List.cons_append, List.nil_append, List.append_nil, List.getElem?_cons_zero, List.getElem?_cons_succ, List.set_cons_zero, List.set_cons_succ, List.replicate, if_true, if_false, Bool.false_eq_true, Bool.not_true, Bool.not_false, i0, hp, decide_true, builtin, bDivmod_int h0 h1, sAsg_eq, gTup_tup, gAll_cons, gAll_nil, gName_eq]
    rw [gSub_ref (xs := [.int a, .int b, .int c]) (k := k) (z := 0) (j := 0) hw rfl rfl rfl rfl]
    rfl
  · let h1' : AHp := h.set k (.lst [.int a, .int b, .int (c + 1)])
    have w1 : h1'[k]? = some (.lst [.int a, .int b, .int (c + 1)]) := List.getElem?_set_self hkl
    have j1 : index (.ref k) (.int 1) h1' = .ok (.int b) h1' := ix_ref w1 rfl
    have j2 : index (.ref k) (.int 2) h1' = .ok (.int (c + 1)) h1' := ix_ref w1 rfl
    let mx : Int := (b * 40009 + 15013 * (c + 1) + 3) % 2147483587
    let b' : Int := (mx * (mx % 5003 + 20011) + (c + 1)) % 2147483587
    let h2' : AHp := h1'.set k (.lst [.int a, .int b', .int (c + 1)])
    have w2 : h2'[k]? = some (.lst [.int a, .int b', .int (c + 1)]) := List.getElem?_set_self (by rw [List.length_set]; exact hkl)
    have k1 : index (.ref k) (.int 1) h2' = .ok (.int b') h2' := ix_ref w2 rfl
    have sm : small64 (mx % 5003 + 20011) = true := by
      have q1 := Int.emod_nonneg mx (show (5003 : Int) ≠ 0 by decide)
      have q2 := Int.emod_lt_of_pos mx (show (0 : Int) < 5003 by decide)
      unfold small64
      simp only [Bool.and_eq_true, decide_eq_true_eq]
      omega
    refine ⟨(b' / 1031) % lim, h2', ?_, (w.set).set, Int.emod_nonneg _ (by omega), Int.emod_lt_of_pos _ h0⟩
    refine fn_okH (h1 := h2') rfl ?_ rfl (by rw [List.length_set, List.length_set])
    have hp' : decide (0 < a) = false := by simpa using hp
    have s1 : Tp.gSub (eVar 0) (eVal (.int 2)) (.int (c + 1)) [some (.ref k), some (.int lim), none, none] h = some ([some (.ref k), some (.int lim), none, none], h1') := gSub_ref (xs := [.int a, .int b, .int c]) (k := k) (z := 2) (j := 2) hw rfl rfl rfl rfl
    have s2 : Tp.gSub (eVar 0) (eVal (.int 1)) (.int b') [some (.ref k), some (.int lim), none, some (.int mx)] h1' = some ([some (.ref k), some (.int lim), none, some (.int mx)], h2') := gSub_ref (xs := [.int a, .int b, .int (c + 1)]) (k := k) (z := 1) (j := 1) w1 rfl rfl rfl rfl
    simp only [b__law_draw, Tp.bind_eq, ret_at, thn_ok, thn_exc, val_eq, var_eq, bin_eq, cmp_eq, asBR_bl, tB_eq, chain_eq, tTruth_eq, truth_bl, tNot_eq, tAnd_nil, tAnd_cons, tOr_nil, tOr_cons, eAnd_one, eAnd_cons, eOr_one, eOr_cons, eNot_eq, eIf_eq, tIf_eq, aNil_eq, aCons_eq, eTup_eq, eLst_eq, eIx_eq, pNo_eq, pAt_eq, eSl_eq, eCall_eq, eCallL_eq, eBlt_eq, eMeth_eq, eAttrX_eq, add_int, sub_int, lt_int, le_int, gt_int, ge_int, eq_int, ne_int, eq_bl, is_bl, is_non, isnot_non, oo_ok, oo_exc, on_nx, on_rt, on_exc, ss_nil, ss_one, ss_cons, sRet_eq, sDrop_eq, sAsg_name, sIf_eq, sRaise_eq, startA, List.map_cons, List.map_nil, List.length_cons, List.length_nil, List.cons_append, List.nil_append, List.append_nil, List.getElem?_cons_zero, List.getElem?_cons_succ, List.set_cons_zero, List.set_cons_succ, List.replicate, if_true, if_false, Bool.false_eq_true, Bool.not_true, Bool.not_false, i0, hp', i2]
    rw [sAsg_eq]
    simp only [Tp.bind_eq, ret_at, thn_ok, thn_exc, val_eq, var_eq, bin_eq, cmp_eq, asBR_bl, tB_eq, chain_eq, tTruth_eq, truth_bl, tNot_eq, tAnd_nil, tAnd_cons, tOr_nil, tOr_cons, eAnd_one, eAnd_cons, eOr_one, eOr_cons, eNot_eq, eIf_eq, tIf_eq, aNil_eq, aCons_eq, eTup_eq, eLst_eq, eIx_eq, pNo_eq, pAt_eq, eSl_eq, eCall_eq, eCallL_eq, eBlt_eq, eMeth_eq, eAttrX_eq, add_int, sub_int, lt_int, le_int, gt_int, ge_int, eq_int, ne_int, eq_bl, is_bl, is_non, isnot_non, oo_ok, oo_exc, on_nx, on_rt, on_exc, ss_nil, ss_one, ss_cons, sRet_eq, sDrop_eq, sAsg_name, sIf_eq, sRaise_eq, startA, List.map_cons, List.map_nil, List.length_cons, List.length_nil, List.cons_append, List.nil_append, List.append_nil, List.getElem?_cons_zero, List.getElem?_cons_succ, List.set_cons_zero, List.set_cons_succ, List.replicate, if_true, if_false, Bool.false_eq_true, Bool.not_true, Bool.not_false, i2, s1, j1, j2, mul_int, show small64 40009 = true by decide, show small64 15013 = true by decide, Bool.or_true, Bool.true_or, builtin, bInt_int, mod_int, show ((0 : Int) < 2147483587) by decide, show ((0 : Int) < 5003) by decide]
    rw [sAsg_eq]
    simp only [Tp.bind_eq, ret_at, thn_ok, thn_exc, val_eq, var_eq, bin_eq, cmp_eq, asBR_bl, tB_eq, chain_eq, tTruth_eq, truth_bl, tNot_eq, tAnd_nil, tAnd_cons, tOr_nil, tOr_cons, eAnd_one, eAnd_cons, eOr_one, eOr_cons, eNot_eq, eIf_eq, tIf_eq, aNil_eq, aCons_eq, eTup_eq, eLst_eq, eIx_eq, pNo_eq, pAt_eq, eSl_eq, eCall_eq, eCallL_eq, eBlt_eq, eMeth_eq, eAttrX_eq, add_int, sub_int, lt_int, le_int, gt_int, ge_int, eq_int, ne_int, eq_bl, is_bl, is_non, isnot_non, oo_ok, oo_exc, on_nx, on_rt, on_exc, ss_nil, ss_one, ss_cons, sRet_eq, sDrop_eq, sAsg_name, sIf_eq, sRaise_eq, startA, List.map_cons, List.map_nil, List.length_cons, List.length_nil, List.cons_append, List.nil_append, List.append_nil, List.getElem?_cons_zero, List.getElem?_cons_succ, List.set_cons_zero, List.set_cons_succ, List.replicate, if_true, if_false, Bool.false_eq_true, Bool.not_true, Bool.not_false, j1, j2, mul_int, show small64 40009 = true by decide, show small64 15013 = true by decide, show small64 ((b * 40009 + 15013 * (c + 1) + 3) % 2147483587 % 5003 + 20011) = true from sm, Bool.or_true, Bool.true_or, builtin, bInt_int, mod_int, show ((0 : Int) < 2147483587) by decide, show ((0 : Int) < 5003) by decide]
    rw [show Tp.gSub (eVar 0) (eVal (.int 1)) (.int (((b * 40009 + 15013 * (c + 1) + 3) % 2147483587 * ((b * 40009 + 15013 * (c + 1) + 3) % 2147483587 % 5003 + 20011) + (c + 1)) % 2147483587)) [some (.ref k), some (.int lim), none, some (.int ((b * 40009 + 15013 * (c + 1) + 3) % 2147483587))] h1' = _ from s2]
    simp only [Tp.bind_eq, ret_at, thn_ok, thn_exc, val_eq, var_eq, bin_eq, cmp_eq, asBR_bl, tB_eq, chain_eq, tTruth_eq, truth_bl, tNot_eq, tAnd_nil, tAnd_cons, tOr_nil, tOr_cons, eAnd_one, eAnd_cons, eOr_one, eOr_cons, eNot_eq, eIf_eq, tIf_eq, aNil_eq, aCons_eq, eTup_eq, eLst_eq, eIx_eq, pNo_eq, pAt_eq, eSl_eq, eCall_eq, eCallL_eq, eBlt_eq, eMeth_eq, eAttrX_eq, add_int, sub_int, lt_int, le_int, gt_int, ge_int, eq_int, ne_int, eq_bl, is_bl, is_non, isnot_non, oo_ok, oo_exc, on_nx, on_rt, on_exc, ss_nil, ss_one, ss_cons, sRet_eq, sDrop_eq, sAsg_name, sIf_eq, sRaise_eq, startA, List.map_cons, List.map_nil, List.length_cons, List.length_nil, List.cons_append, List.nil_append, List.append_nil, List.getElem?_cons_zero, List.getElem?_cons_succ, List.set_cons_zero, List.set_cons_succ, List.replicate, if_true, if_false, Bool.false_eq_true, Bool.not_true, Bool.not_false, k1, fdiv_int, show ((0 : Int) < 1031 ∧ (1031 : Int) < 1073741824) by decide, and_self, builtin, bInt_int, mod_int, h0]

theorem well_loop (a b : AV) (e4 : Option AV) (h : AHp) : ∀ (l : List Int) (st : Int) (e3 : Option AV), ∃ (st' : Int) (e3' : Option AV),
    forL (Tp.gName 3) (sSeqs [(sAsg (eBin .Mod (eBlt glob .int (aCons (eBin .Add (eBin .Add (eBin .Mult (eVar 2) (eVal (.int 48271))) (eBin .Mod (eBlt glob .int (aCons (eVar 3) aNil)) (eVal (.int 2147483549)))) (eVal (.int 23))) aNil)) (eVal (.int 2147483587))) (Tp.gName 2))]) (ints' l)
      [some a, some b, some (.int st), e3, e4] h = .nx [some a, some b, some (.int st'), e3', e4] h
  | [], st, e3 => ⟨st, e3, rfl⟩
  | z :: r, st, e3 => by
    obtain ⟨st', e3', e⟩ := well_loop a b e4 h r ((st * 48271 + z % 2147483549 + 23) % 2147483587) (some (.int z))
    refine ⟨st', e3', ?_⟩
    rw [show ints' (z :: r) = .int z :: ints' r from rfl, forL_cons]
    simp only [gName_eq, Tp.bind_eq, ret_at, thn_ok, thn_exc, val_eq, var_eq, bin_eq, cmp_eq, asBR_bl, tB_eq, chain_eq, tTruth_eq, truth_bl, tNot_eq, tAnd_nil, tAnd_cons, tOr_nil, tOr_cons, eAnd_one, eAnd_cons, eOr_one, eOr_cons, eNot_eq, eIf_eq, tIf_eq, aNil_eq, aCons_eq, eTup_eq, eLst_eq, eIx_eq, pNo_eq, pAt_eq, eSl_eq, eCall_eq, eCallL_eq, eBlt_eq, eMeth_eq, eAttrX_eq, add_int, sub_int, lt_int, le_int, gt_int, ge_int, eq_int, ne_int, eq_bl, is_bl, is_non, isnot_non, oo_ok, oo_exc, on_nx, on_rt, on_exc, ss_nil, ss_one, ss_cons, sRet_eq, sDrop_eq, sAsg_name, sIf_eq, sRaise_eq, startA, List.map_cons, List.map_nil, List.length_cons, List.length_nil, List.cons_append, List.nil_append, List.append_nil, List.getElem?_cons_zero, List.getElem?_cons_succ, List.set_cons_zero, List.set_cons_succ, List.replicate, if_true, if_false, Bool.false_eq_true, Bool.not_true, Bool.not_false, mul_int, show small64 48271 = true by decide, Bool.or_true, builtin, bInt_int, mod_int, show ((0 : Int) < 2147483587) by decide, show ((0 : Int) < 2147483549) by decide, turn_nx]
    exact e
theorem well_ok (n : Nat) (l : List Int) (lap : Nat) (h : AHp) : ∃ a b : Int, callN glob (n + 1) (.fn 11) [.lst (ints' l), .int lap] h = .ok (.ref h.length) (h ++ [.lst [.int a, .int b, .int 0]]) := by
  obtain ⟨st, e3, e⟩ := well_loop (.lst (ints' l)) (.int lap) none h (cut l none (some 16)) (704969 + 6121 * lap) none
  have own : ∃ o : Int, eIf (tB (eCmp .Lt (eVar 1) (eBlt glob .len (aCons (eVar 0) aNil)))) (eBlt glob .int (aCons (eIx (eVar 0) (eVar 1)) aNil)) (eVal (.int 0)) [some (.lst (ints' l)), some (.int lap), some (.int st), e3, none] h = .ok (.int o) h := by
    simp only [Tp.bind_eq, ret_at, thn_ok, thn_exc, val_eq, var_eq, bin_eq, cmp_eq, asBR_bl, tB_eq, chain_eq, tTruth_eq, truth_bl, tNot_eq, tAnd_nil, tAnd_cons, tOr_nil, tOr_cons, eAnd_one, eAnd_cons, eOr_one, eOr_cons, eNot_eq, eIf_eq, tIf_eq, aNil_eq, aCons_eq, eTup_eq, eLst_eq, eIx_eq, pNo_eq, pAt_eq, eSl_eq, eCall_eq, eCallL_eq, eBlt_eq, eMeth_eq, eAttrX_eq, add_int, sub_int, lt_int, le_int, gt_int, ge_int, eq_int, ne_int, eq_bl, is_bl, is_non, isnot_non, oo_ok, oo_exc, on_nx, on_rt, on_exc, ss_nil, ss_one, ss_cons, sRet_eq, sDrop_eq, sAsg_name, sIf_eq, sRaise_eq, startA, List.map_cons, List.map_nil, List.length_cons, List.length_nil, List.cons_append, List.nil_append, List.append_nil, List.getElem?_cons_zero, List.getElem?_cons_succ, List.set_cons_zero, List.set_cons_succ, List.replicate, if_true, if_false, Bool.false_eq_true, Bool.not_true, Bool.not_false, builtin, bLen, lenOf, seqOf, lstOf, ints_len]
    by_cases hl : lap < l.length
    · have e1 : decide ((lap : Int) < (l.length : Int)) = true := by simp; omega
      refine ⟨l[lap], ?_⟩
      simp only [e1, Tp.bind_eq, ret_at, thn_ok, thn_exc, val_eq, var_eq, bin_eq, cmp_eq, asBR_bl, tB_eq, chain_eq, tTruth_eq, truth_bl, tNot_eq, tAnd_nil, tAnd_cons, tOr_nil, tOr_cons, eAnd_one, eAnd_cons, eOr_one, eOr_cons, eNot_eq, eIf_eq, tIf_eq, aNil_eq, aCons_eq, eTup_eq, eLst_eq, eIx_eq, pNo_eq, pAt_eq, eSl_eq, eCall_eq, eCallL_eq, eBlt_eq, eMeth_eq, eAttrX_eq, add_int, sub_int, lt_int, le_int, gt_int, ge_int, eq_int, ne_int, eq_bl, is_bl, is_non, isnot_non, oo_ok, oo_exc, on_nx, on_rt, on_exc, ss_nil, ss_one, ss_cons, sRet_eq, sDrop_eq, sAsg_name, sIf_eq, sRaise_eq, startA, List.map_cons, List.map_nil, List.length_cons, List.length_nil, List.cons_append, List.nil_append, List.append_nil, List.getElem?_cons_zero, List.getElem?_cons_succ, List.set_cons_zero, List.set_cons_succ, List.replicate, if_true, if_false, Bool.false_eq_true, Bool.not_true, Bool.not_false, builtin]
      rw [ix_lst (y := .int l[lap]) (atI_nat (by
        unfold ints'
        rw [List.getElem?_map, List.getElem?_eq_getElem hl]
        rfl))]
      rfl
    · have e1 : decide ((lap : Int) < (l.length : Int)) = false := by simp; omega
      refine ⟨0, ?_⟩
      simp only [e1, Tp.bind_eq, ret_at, thn_ok, thn_exc, val_eq, var_eq, bin_eq, cmp_eq, asBR_bl, tB_eq, chain_eq, tTruth_eq, truth_bl, tNot_eq, tAnd_nil, tAnd_cons, tOr_nil, tOr_cons, eAnd_one, eAnd_cons, eOr_one, eOr_cons, eNot_eq, eIf_eq, tIf_eq, aNil_eq, aCons_eq, eTup_eq, eLst_eq, eIx_eq, pNo_eq, pAt_eq, eSl_eq, eCall_eq, eCallL_eq, eBlt_eq, eMeth_eq, eAttrX_eq, add_int, sub_int, lt_int, le_int, gt_int, ge_int, eq_int, ne_int, eq_bl, is_bl, is_non, isnot_non, oo_ok, oo_exc, on_nx, on_rt, on_exc, ss_nil, ss_one, ss_cons, sRet_eq, sDrop_eq, sAsg_name, sIf_eq, sRaise_eq, startA, List.map_cons, List.map_nil, List.length_cons, List.length_nil, List.cons_append, List.nil_append, List.append_nil, List.getElem?_cons_zero, List.getElem?_cons_succ, List.set_cons_zero, List.set_cons_succ, List.replicate, if_true, if_false, Bool.false_eq_true, Bool.not_true, Bool.not_false]
  obtain ⟨o, eo⟩ := own
  have it : iVal (eSl (eVar 0) pNo (pAt (eVal (.int 16)))) [some (.lst (ints' l)), some (.int lap), some (.int (704969 + 6121 * lap)), none, none] h = .ok (.items (ints' (cut l none (some 16)))) h := by
    refine iVal_lst ?_
    simp only [Tp.bind_eq, ret_at, thn_ok, thn_exc, val_eq, var_eq, bin_eq, cmp_eq, asBR_bl, tB_eq, chain_eq, tTruth_eq, truth_bl, tNot_eq, tAnd_nil, tAnd_cons, tOr_nil, tOr_cons, eAnd_one, eAnd_cons, eOr_one, eOr_cons, eNot_eq, eIf_eq, tIf_eq, aNil_eq, aCons_eq, eTup_eq, eLst_eq, eIx_eq, pNo_eq, pAt_eq, eSl_eq, eCall_eq, eCallL_eq, eBlt_eq, eMeth_eq, eAttrX_eq, add_int, sub_int, lt_int, le_int, gt_int, ge_int, eq_int, ne_int, eq_bl, is_bl, is_non, isnot_non, oo_ok, oo_exc, on_nx, on_rt, on_exc, ss_nil, ss_one, ss_cons, sRet_eq, sDrop_eq, sAsg_name, sIf_eq, sRaise_eq, startA, List.map_cons, List.map_nil, List.length_cons, List.length_nil, List.cons_append, List.nil_append, List.append_nil, List.getElem?_cons_zero, List.getElem?_cons_succ, List.set_cons_zero, List.set_cons_succ, List.replicate, if_true, if_false, Bool.false_eq_true, Bool.not_true, Bool.not_false, slice, lstOf, cut_ints]
  refine ⟨if (decide (o < 0) || decide ((10 : Int) ^ (Int.toNat 15) ≤ o)) = true then (if o < 0 then -o else o) else 0, (st * 53 + o % 2147483549 * 15013 + 11) % 2147483587, ?_⟩
  rw [_law_well_eq]
  refine fn_new rfl ?_
  simp only [b__law_well, ss_cons, sAsg_name, bin_eq, val_eq, var_eq, startA, List.map_cons, List.map_nil, List.length_cons, List.length_nil, List.cons_append, List.nil_append, List.replicate, List.getElem?_cons_succ, List.getElem?_cons_zero, thn_ok, oo_ok, on_nx, add_int, List.set_cons_succ, List.set_cons_zero, if_true, mul_int, show small64 6121 = true by decide, Bool.true_or]
  rw [sFor_items it, e]
  rw [on_nx]
  rw [eo]
  simp only [Tp.bind_eq, ret_at, thn_ok, thn_exc, val_eq, var_eq, bin_eq, cmp_eq, asBR_bl, tB_eq, chain_eq, tTruth_eq, truth_bl, tNot_eq, tAnd_nil, tAnd_cons, tOr_nil, tOr_cons, eAnd_one, eAnd_cons, eOr_one, eOr_cons, eNot_eq, eIf_eq, tIf_eq, aNil_eq, aCons_eq, eTup_eq, eLst_eq, eIx_eq, pNo_eq, pAt_eq, eSl_eq, eCall_eq, eCallL_eq, eBlt_eq, eMeth_eq, eAttrX_eq, add_int, sub_int, lt_int, le_int, gt_int, ge_int, eq_int, ne_int, eq_bl, is_bl, is_non, isnot_non, oo_ok, oo_exc, on_nx, on_rt, on_exc, ss_nil, ss_one, ss_cons, sRet_eq, sDrop_eq, sAsg_name, sIf_eq, sRaise_eq, startA, List.map_cons, List.map_nil, List.length_cons, List.length_nil, List.cons_append, List.nil_append, List.append_nil, List.getElem?_cons_zero, List.getElem?_cons_succ, List.set_cons_zero, List.set_cons_succ, List.replicate, if_true, if_false, Bool.false_eq_true, Bool.not_true, Bool.not_false, mul_int, show small64 53 = true by decide, show small64 15013 = true by decide, Bool.or_true, builtin, bInt_int, mod_int, show ((0 : Int) < 2147483587) by decide, show ((0 : Int) < 2147483549) by decide, pow_int,
    show ((0 : Int) ≤ 15 ∧ (15 : Int) ≤ 1000000 ∧ (10 : Int).natAbs < 2 ^ 64) by decide, and_self, eNew_eq, bAbs_int]
  have key : ∀ p q : Bool, ((if p = true then (Res.ok true h) else if q = true then Res.ok true h else Res.ok false h).thn fun c h1 => if c = true then Res.ok (AV.int (if o < 0 then -o else o)) h1 else .ok (.int 0) h1) = .ok (.int (if (p || q) = true then (if o < 0 then -o else o) else 0)) h := fun p q => by
    cases p <;> cases q <;> rfl
  rw [key (decide (o < 0)) (decide ((10 : Int) ^ (Int.toNat 15) ≤ o))]
  simp only [Tp.bind_eq, ret_at, thn_ok, thn_exc, val_eq, var_eq, bin_eq, cmp_eq, asBR_bl, tB_eq, chain_eq, tTruth_eq, truth_bl, tNot_eq, tAnd_nil, tAnd_cons, tOr_nil, tOr_cons, eAnd_one, eAnd_cons, eOr_one, eOr_cons, eNot_eq, eIf_eq, tIf_eq, aNil_eq, aCons_eq, eTup_eq, eLst_eq, eIx_eq, pNo_eq, pAt_eq, eSl_eq, eCall_eq, eCallL_eq, eBlt_eq, eMeth_eq, eAttrX_eq, add_int, sub_int, lt_int, le_int, gt_int, ge_int, eq_int, ne_int, eq_bl, is_bl, is_non, isnot_non, oo_ok, oo_exc, on_nx, on_rt, on_exc, ss_nil, ss_one, ss_cons, sRet_eq, sDrop_eq, sAsg_name, sIf_eq, sRaise_eq, startA, List.map_cons, List.map_nil, List.length_cons, List.length_nil, List.cons_append, List.nil_append, List.append_nil, List.getElem?_cons_zero, List.getElem?_cons_succ, List.set_cons_zero, List.set_cons_succ, List.replicate, if_true, if_false, Bool.false_eq_true, Bool.not_true, Bool.not_false, AV.pureAll, AV.pure, Bool.and_self, and_true, show (3 : Nat) ≤ SL from by decide, show (0 + 1 + 1 + 1 : Nat) ≤ SL from by decide]
end Tp
end
section
set_option linter.all false
set_option maxRecDepth 100000
namespace Tp
open PySem PySem.Spec PyProof.Rows

theorem same_flat (n : Nat) (x : AV) (h : AHp) (hx : x.dat DD = true) (ht : isTy x "tuple" = false) : callN glob (n + 1) (.fn 13) [x, x] h = .ok (.bl true) h := by
  have hk := dat_kd hx
  have ee := eq_dat (h := h) hx hx
  rw [eqv_self hx] at ee
  have t1 := isInst_ty (G := glob) hk (n := "tuple") rfl h
  have t2 := isInst_ty (G := glob) hk (n := "bool") rfl h
  have t3 := isInst_ty (G := glob) hk (n := "int") rfl h
  have t4 := isInst_ty (G := glob) hk (n := "str") rfl h
  have t5 := isInst_ty (G := glob) hk (n := "list") rfl h
  have t6 := isInst_ty (G := glob) hk (n := "dict") rfl h
  rw [ht] at t1
  rw [_law_same_eq]
  refine fn_ok' rfl ?_ rfl
  have eqs : ∀ b : Bool, (b == b) = true := fun b => by cases b <;> rfl
  cases x <;> first | (cases hk; done) | (cases ht; done) | skip
  · rw [show isTy .non "bool" = false from rfl] at t2
    rw [show isTy .non "int" = false from rfl] at t3
    rw [show isTy .non "str" = false from rfl] at t4
    simp only [b__law_same, Tp.bind_eq, ret_at, thn_ok, thn_exc, val_eq, var_eq, bin_eq, cmp_eq, asBR_bl, tB_eq, chain_eq, tTruth_eq, truth_bl, tNot_eq, tAnd_nil, tAnd_cons, tOr_nil, tOr_cons, eAnd_one, eAnd_cons, eOr_one, eOr_cons, eNot_eq, eIf_eq, tIf_eq, aNil_eq, aCons_eq, eTup_eq, eLst_eq, eIx_eq, pNo_eq, pAt_eq, eSl_eq, eCall_eq, eCallL_eq, eBlt_eq, eMeth_eq, eAttrX_eq, add_int, sub_int, lt_int, le_int, gt_int, ge_int, eq_int, ne_int, eq_bl, is_bl, is_non, isnot_non, oo_ok, oo_exc, on_nx, on_rt, on_exc, ss_nil, ss_one, ss_cons, sRet_eq, sDrop_eq, sAsg_name, sIf_eq, sRaise_eq, startA, List.map_cons, List.map_nil, List.length_cons, List.length_nil, List.cons_append, List.nil_append, List.append_nil, List.getElem?_cons_zero, List.getElem?_cons_succ, List.set_cons_zero, List.set_cons_succ, List.replicate, if_true, if_false, Bool.false_eq_true, Bool.not_true, Bool.not_false, builtin, bIsInst, t1, t2, t3, t4, isNon]
  · rename_i b
    rw [show isTy (.bl b) "bool" = true from rfl] at t2
    simp only [b__law_same, Tp.bind_eq, ret_at, thn_ok, thn_exc, val_eq, var_eq, bin_eq, cmp_eq, asBR_bl, tB_eq, chain_eq, tTruth_eq, truth_bl, tNot_eq, tAnd_nil, tAnd_cons, tOr_nil, tOr_cons, eAnd_one, eAnd_cons, eOr_one, eOr_cons, eNot_eq, eIf_eq, tIf_eq, aNil_eq, aCons_eq, eTup_eq, eLst_eq, eIx_eq, pNo_eq, pAt_eq, eSl_eq, eCall_eq, eCallL_eq, eBlt_eq, eMeth_eq, eAttrX_eq, add_int, sub_int, lt_int, le_int, gt_int, ge_int, eq_int, ne_int, eq_bl, is_bl, is_non, isnot_non, oo_ok, oo_exc, on_nx, on_rt, on_exc, ss_nil, ss_one, ss_cons, sRet_eq, sDrop_eq, sAsg_name, sIf_eq, sRaise_eq, startA, List.map_cons, List.map_nil, List.length_cons, List.length_nil, List.cons_append, List.nil_append, List.append_nil, List.getElem?_cons_zero, List.getElem?_cons_succ, List.set_cons_zero, List.set_cons_succ, List.replicate, if_true, if_false, Bool.false_eq_true, Bool.not_true, Bool.not_false, builtin, bIsInst, t1, t2, eqs]
  · rename_i i
    rw [show isTy (.int i) "bool" = false from rfl] at t2
    rw [show isTy (.int i) "int" = true from rfl] at t3
    simp only [b__law_same, Tp.bind_eq, ret_at, thn_ok, thn_exc, val_eq, var_eq, bin_eq, cmp_eq, asBR_bl, tB_eq, chain_eq, tTruth_eq, truth_bl, tNot_eq, tAnd_nil, tAnd_cons, tOr_nil, tOr_cons, eAnd_one, eAnd_cons, eOr_one, eOr_cons, eNot_eq, eIf_eq, tIf_eq, aNil_eq, aCons_eq, eTup_eq, eLst_eq, eIx_eq, pNo_eq, pAt_eq, eSl_eq, eCall_eq, eCallL_eq, eBlt_eq, eMeth_eq, eAttrX_eq, add_int, sub_int, lt_int, le_int, gt_int, ge_int, eq_int, ne_int, eq_bl, is_bl, is_non, isnot_non, oo_ok, oo_exc, on_nx, on_rt, on_exc, ss_nil, ss_one, ss_cons, sRet_eq, sDrop_eq, sAsg_name, sIf_eq, sRaise_eq, startA, List.map_cons, List.map_nil, List.length_cons, List.length_nil, List.cons_append, List.nil_append, List.append_nil, List.getElem?_cons_zero, List.getElem?_cons_succ, List.set_cons_zero, List.set_cons_succ, List.replicate, if_true, if_false, Bool.false_eq_true, Bool.not_true, Bool.not_false, builtin, bIsInst, t1, t2, t3, beq_self_eq_true]
  · rename_i s
    rw [show isTy (.str s) "bool" = false from rfl] at t2
    rw [show isTy (.str s) "int" = false from rfl] at t3
    rw [show isTy (.str s) "str" = true from rfl] at t4
    simp only [b__law_same, Tp.bind_eq, ret_at, thn_ok, thn_exc, val_eq, var_eq, bin_eq, cmp_eq, asBR_bl, tB_eq, chain_eq, tTruth_eq, truth_bl, tNot_eq, tAnd_nil, tAnd_cons, tOr_nil, tOr_cons, eAnd_one, eAnd_cons, eOr_one, eOr_cons, eNot_eq, eIf_eq, tIf_eq, aNil_eq, aCons_eq, eTup_eq, eLst_eq, eIx_eq, pNo_eq, pAt_eq, eSl_eq, eCall_eq, eCallL_eq, eBlt_eq, eMeth_eq, eAttrX_eq, add_int, sub_int, lt_int, le_int, gt_int, ge_int, eq_int, ne_int, eq_bl, is_bl, is_non, isnot_non, oo_ok, oo_exc, on_nx, on_rt, on_exc, ss_nil, ss_one, ss_cons, sRet_eq, sDrop_eq, sAsg_name, sIf_eq, sRaise_eq, startA, List.map_cons, List.map_nil, List.length_cons, List.length_nil, List.cons_append, List.nil_append, List.append_nil, List.getElem?_cons_zero, List.getElem?_cons_succ, List.set_cons_zero, List.set_cons_succ, List.replicate, if_true, if_false, Bool.false_eq_true, Bool.not_true, Bool.not_false, builtin, bIsInst, t1, t2, t3, t4, ee]
  · rename_i xs
    rw [show isTy (.lst xs) "bool" = false from rfl] at t2
    rw [show isTy (.lst xs) "int" = false from rfl] at t3
    rw [show isTy (.lst xs) "str" = false from rfl] at t4
    simp only [b__law_same, Tp.bind_eq, ret_at, thn_ok, thn_exc, val_eq, var_eq, bin_eq, cmp_eq, asBR_bl, tB_eq, chain_eq, tTruth_eq, truth_bl, tNot_eq, tAnd_nil, tAnd_cons, tOr_nil, tOr_cons, eAnd_one, eAnd_cons, eOr_one, eOr_cons, eNot_eq, eIf_eq, tIf_eq, aNil_eq, aCons_eq, eTup_eq, eLst_eq, eIx_eq, pNo_eq, pAt_eq, eSl_eq, eCall_eq, eCallL_eq, eBlt_eq, eMeth_eq, eAttrX_eq, add_int, sub_int, lt_int, le_int, gt_int, ge_int, eq_int, ne_int, eq_bl, is_bl, is_non, isnot_non, oo_ok, oo_exc, on_nx, on_rt, on_exc, ss_nil, ss_one, ss_cons, sRet_eq, sDrop_eq, sAsg_name, sIf_eq, sRaise_eq, startA, List.map_cons, List.map_nil, List.length_cons, List.length_nil, List.cons_append, List.nil_append, List.append_nil, List.getElem?_cons_zero, List.getElem?_cons_succ, List.set_cons_zero, List.set_cons_succ, List.replicate, if_true, if_false, Bool.false_eq_true, Bool.not_true, Bool.not_false, builtin, bIsInst, t1, t2, t3, t4, t5, t6, ee, isNon, eqs]

def gd : Nat → AV → Prop
  | 0, x => x.dat DD = true ∧ isTy x "tuple" = false
  | n + 1, x => x.dat DD = true ∧ ∀ xs, x = .tup xs → xs.length ≤ 1000000 ∧ ∀ y ∈ xs, gd n y
theorem same_comp (m : Nat) (xs : List AV) (h : AHp) (e3 : Option AV) (hl : xs.length ≤ 1000000) (hy : ∀ y ∈ xs, ∀ h, callN glob m (.fn 13) [y, y] h = .ok (.bl true) h) :
    eComp [3] (iRange1 (eBlt glob .len (aCons (eVar 1) aNil))) (Tp.gName 3) (fun _ => ret true) (eCall (callN glob m) 13 (aCons (eIx (eVar 0) (eVar 3)) (aCons (eIx (eVar 1) (eVar 3)) aNil))) [some (.tup xs), some (.tup xs), none, e3] h = .ok (.lst (List.replicate xs.length (.bl true))) h := by
  have it : iRange1 (eBlt glob .len (aCons (eVar 1) aNil)) [some (.tup xs), some (.tup xs), none, e3] h = .ok (.items (rangeL 0 xs.length)) h := by
    have := iRange_n (a := eBlt glob .len (aCons (eVar 1) aNil)) (env := [some (.tup xs), some (.tup xs), none, e3]) (h := h) (h1 := h) (k := xs.length) (by simp only [Tp.bind_eq, ret_at, thn_ok, thn_exc, val_eq, var_eq, bin_eq, cmp_eq, asBR_bl, tB_eq, chain_eq, tTruth_eq, truth_bl, tNot_eq, tAnd_nil, tAnd_cons, tOr_nil, tOr_cons, eAnd_one, eAnd_cons, eOr_one, eOr_cons, eNot_eq, eIf_eq, tIf_eq, aNil_eq, aCons_eq, eTup_eq, eLst_eq, eIx_eq, pNo_eq, pAt_eq, eSl_eq, eCall_eq, eCallL_eq, eBlt_eq, eMeth_eq, eAttrX_eq, add_int, sub_int, lt_int, le_int, gt_int, ge_int, eq_int, ne_int, eq_bl, is_bl, is_non, isnot_non, oo_ok, oo_exc, on_nx, on_rt, on_exc, ss_nil, ss_one, ss_cons, sRet_eq, sDrop_eq, sAsg_name, sIf_eq, sRaise_eq, startA, List.map_cons, List.map_nil, List.length_cons, List.length_nil, List.cons_append, List.nil_append, List.append_nil, List.getElem?_cons_zero, List.getElem?_cons_succ, List.set_cons_zero, List.set_cons_succ, List.replicate, if_true, if_false, Bool.false_eq_true, Bool.not_true, Bool.not_false, builtin, bLen, lenOf, seqOf]) (by unfold small62; simp only [Bool.and_eq_true, decide_eq_true_eq]; omega)
    rw [this, Int.toNat_natCast]
  have hr : (rangeL 0 xs.length).length = xs.length := by simp [rangeL]
  have hSL : ([] : List AV).length + (rangeL 0 xs.length).length ≤ SL := by
    rw [hr, List.length_nil, Nat.zero_add]
    exact Nat.le_trans hl (by decide)
  obtain ⟨ys, h1, e1, hp⟩ := compL_inv (g := Tp.gName 3) (q := eCall (callN glob m) 13 (aCons (eIx (eVar 0) (eVar 3)) (aCons (eIx (eVar 1) (eVar 3)) aNil))) (env := [some (.tup xs), some (.tup xs), none, none]) (fun i acc h' => acc = List.replicate i (.bl true) ∧ h' = h) (rangeL 0 xs.length) (rangeL 0 xs.length) [] 0 h (Nat.zero_le _) rfl hSL ⟨rfl, rfl⟩ (fun i y acc h' hi hp => by
    obtain ⟨rfl, rfl⟩ := hp
    have hil : i < xs.length := by rw [← hr]; exact (List.getElem?_eq_some_iff.mp hi).1
    have ey : y = .int i := by
      unfold rangeL at hi
      rw [List.getElem?_map, List.getElem?_range (by simpa using hil)] at hi
      simpa using hi.symm
    subst ey
    have eg : xs[i]? = some xs[i] := List.getElem?_eq_getElem hil
    refine ⟨[some (.tup xs), some (.tup xs), none, some (.int i)], h', .bl true, h', rfl, ?_, by rw [List.replicate_succ'], rfl⟩
    simp only [Tp.bind_eq, ret_at, thn_ok, thn_exc, val_eq, var_eq, bin_eq, cmp_eq, asBR_bl, tB_eq, chain_eq, tTruth_eq, truth_bl, tNot_eq, tAnd_nil, tAnd_cons, tOr_nil, tOr_cons, eAnd_one, eAnd_cons, eOr_one, eOr_cons, eNot_eq, eIf_eq, tIf_eq, aNil_eq, aCons_eq, eTup_eq, eLst_eq, eIx_eq, pNo_eq, pAt_eq, eSl_eq, eCall_eq, eCallL_eq, eBlt_eq, eMeth_eq, eAttrX_eq, add_int, sub_int, lt_int, le_int, gt_int, ge_int, eq_int, ne_int, eq_bl, is_bl, is_non, isnot_non, oo_ok, oo_exc, on_nx, on_rt, on_exc, ss_nil, ss_one, ss_cons, sRet_eq, sDrop_eq, sAsg_name, sIf_eq, sRaise_eq, startA, List.map_cons, List.map_nil, List.length_cons, List.length_nil, List.cons_append, List.nil_append, List.append_nil, List.getElem?_cons_zero, List.getElem?_cons_succ, List.set_cons_zero, List.set_cons_succ, List.replicate, if_true, if_false, Bool.false_eq_true, Bool.not_true, Bool.not_false, ix_tup (atI_nat eg)]
    exact hy _ (List.getElem_mem hil) _)
  obtain ⟨rfl, rfl⟩ := hp
  rw [hr] at e1
  have ew : Tp.wipe [3] [some (.tup xs), some (.tup xs), none, e3] = [some (.tup xs), some (.tup xs), none, none] := rfl
  rw [eComp_items (r := .ok (List.replicate xs.length (.bl true)) h1) it (by rw [ew]; exact e1)]
  rfl
theorem same_self : ∀ (d n : Nat) (x : AV) (h : AHp), gd d x → callN glob (n + d + 1) (.fn 13) [x, x] h = .ok (.bl true) h := fun d => by
  induction d with
  | zero =>
    intro n x h g
    rw [Nat.add_zero]
    exact same_flat n x h g.1 g.2
  | succ d ih =>
    intro n x h g
    cases ht : isTy x "tuple" with
    | false => exact same_flat (n + (d + 1)) x h g.1 ht
    | true =>
      obtain ⟨xs, rfl⟩ : ∃ xs, x = .tup xs := by
        cases x <;> first | exact ⟨_, rfl⟩ | (cases ht; done)
      obtain ⟨hl, hy⟩ := g.2 xs rfl
      have t1 := isInst_ty (G := glob) (x := .tup xs) rfl (n := "tuple") rfl h
      rw [ht] at t1
      rw [show n + (d + 1) + 1 = (n + d + 1) + 1 by omega, _law_same_eq]
      refine fn_ok' rfl ?_ rfl
      have hne : (!((xs.length : Int) == (xs.length : Int))) = false := by simp
      have comp := same_comp (n + d + 1) xs h none hl fun y hyy h => ih n y h (hy y hyy)
      rw [show startA 4 [AV.tup xs, .tup xs] = [some (.tup xs), some (.tup xs), none, none] from rfl]
      unfold b__law_same
      refine ss_rt ?_
      refine s_ifT (h1 := h) (by simp only [Tp.bind_eq, ret_at, thn_ok, thn_exc, val_eq, var_eq, bin_eq, cmp_eq, asBR_bl, tB_eq, chain_eq, tTruth_eq, truth_bl, tNot_eq, tAnd_nil, tAnd_cons, tOr_nil, tOr_cons, eAnd_one, eAnd_cons, eOr_one, eOr_cons, eNot_eq, eIf_eq, tIf_eq, aNil_eq, aCons_eq, eTup_eq, eLst_eq, eIx_eq, pNo_eq, pAt_eq, eSl_eq, eCall_eq, eCallL_eq, eBlt_eq, eMeth_eq, eAttrX_eq, add_int, sub_int, lt_int, le_int, gt_int, ge_int, eq_int, ne_int, eq_bl, is_bl, is_non, isnot_non, oo_ok, oo_exc, on_nx, on_rt, on_exc, ss_nil, ss_one, ss_cons, sRet_eq, sDrop_eq, sAsg_name, sIf_eq, sRaise_eq, startA, List.map_cons, List.map_nil, List.length_cons, List.length_nil, List.cons_append, List.nil_append, List.append_nil, List.getElem?_cons_zero, List.getElem?_cons_succ, List.set_cons_zero, List.set_cons_succ, List.replicate, if_true, if_false, Bool.false_eq_true, Bool.not_true, Bool.not_false, builtin, bIsInst, t1]) ?_
      refine ss_nx (s_if0 (h1 := h) (by simp only [Tp.bind_eq, ret_at, thn_ok, thn_exc, val_eq, var_eq, bin_eq, cmp_eq, asBR_bl, tB_eq, chain_eq, tTruth_eq, truth_bl, tNot_eq, tAnd_nil, tAnd_cons, tOr_nil, tOr_cons, eAnd_one, eAnd_cons, eOr_one, eOr_cons, eNot_eq, eIf_eq, tIf_eq, aNil_eq, aCons_eq, eTup_eq, eLst_eq, eIx_eq, pNo_eq, pAt_eq, eSl_eq, eCall_eq, eCallL_eq, eBlt_eq, eMeth_eq, eAttrX_eq, add_int, sub_int, lt_int, le_int, gt_int, ge_int, eq_int, ne_int, eq_bl, is_bl, is_non, isnot_non, oo_ok, oo_exc, on_nx, on_rt, on_exc, ss_nil, ss_one, ss_cons, sRet_eq, sDrop_eq, sAsg_name, sIf_eq, sRaise_eq, startA, List.map_cons, List.map_nil, List.length_cons, List.length_nil, List.cons_append, List.nil_append, List.append_nil, List.getElem?_cons_zero, List.getElem?_cons_succ, List.set_cons_zero, List.set_cons_succ, List.replicate, if_true, if_false, Bool.false_eq_true, Bool.not_true, Bool.not_false, builtin, bIsInst, t1, bLen, lenOf, seqOf, hne])) ?_
      refine ss_rt (s_ret (v := .bl true) (h1 := h) ?_)
      rw [eBlt_eq, aCons_eq, comp]
      simp only [thn_ok, aNil_eq]
      exact bAll_rep _ _

theorem kept_exc (n k : Nat) (l : LamInfo) (cs : List (Option AV)) (w : AV) (h : AHp) (hk : k = 1 ∨ k = 2) (hw : w.pure = true) (e : callN glob n (.clo l cs) [] h = .exc k w h) :
    callN glob (n + 1) (.fn 14) [.clo l cs] h = .ok (.tup [.str (if k = 2 then [111, 99, 116, 101, 116, 115] else [115, 108, 105, 112]), w]) h := by
  rw [_law_kept_by_eq]
  have hx := AV.pure_noX hw
  refine fn_ok' rfl ?_ ?_
  · have call : eCallV (callN glob n) (eVar 0) aNil [some (.clo l cs), none, none, none] h = .exc k w h := by
      rw [eCallV_clo (l := l) (cs := cs) (h1 := h) rfl]
      simp only [Tp.bind_eq, ret_at, thn_ok, thn_exc, val_eq, var_eq, bin_eq, cmp_eq, asBR_bl, tB_eq, chain_eq, tTruth_eq, truth_bl, tNot_eq, tAnd_nil, tAnd_cons, tOr_nil, tOr_cons, eAnd_one, eAnd_cons, eOr_one, eOr_cons, eNot_eq, eIf_eq, tIf_eq, aNil_eq, aCons_eq, eTup_eq, eLst_eq, eIx_eq, pNo_eq, pAt_eq, eSl_eq, eCall_eq, eCallL_eq, eBlt_eq, eMeth_eq, eAttrX_eq, add_int, sub_int, lt_int, le_int, gt_int, ge_int, eq_int, ne_int, eq_bl, is_bl, is_non, isnot_non, oo_ok, oo_exc, on_nx, on_rt, on_exc, ss_nil, ss_one, ss_cons, sRet_eq, sDrop_eq, sAsg_name, sIf_eq, sRaise_eq, startA, List.map_cons, List.map_nil, List.length_cons, List.length_nil, List.cons_append, List.nil_append, List.append_nil, List.getElem?_cons_zero, List.getElem?_cons_succ, List.set_cons_zero, List.set_cons_succ, List.replicate, if_true, if_false, Bool.false_eq_true, Bool.not_true, Bool.not_false]
      exact e
    have e0 : sSeqs [(sDrop (eCallV (callN glob n) (eVar 0) aNil))] [some (.clo l cs), none, none, none] h = .exc k w [some (.clo l cs), none, none, none] h := by
      rw [ss_one, sDrop_eq, call]
      rfl
    have st : ∀ (u : DS), sTry glob 0 1 (sSeqs [(sDrop (eCallV (callN glob n) (eVar 0) aNil))]) u [some (.clo l cs), none, none, none] h = (match u [some (.clo l cs), some (.exc k w), none, none] h with
        | .nx env2 h2 => .nx (wipeX (env2.set 1 none)) h2
        | .bk env2 h2 => .bk (wipeX (env2.set 1 none)) h2
        | .ct env2 h2 => .ct (wipeX (env2.set 1 none)) h2
        | .rt v h2 => if v.noX then .rt v h2 else .stuck
        | _ => .stuck) := fun u => by
      unfold sTry
      rw [e0]
      rcases hk with rfl | rfl <;> rfl
    show b__law_kept_by (callN glob n) [some (.clo l cs), none, none, none] h = _
    unfold b__law_kept_by
    rw [ss_cons, st]
    have fin : ∀ s : List Nat, (AV.tup [.str s, w]).noX = true := fun s => by
      show (true && (w.noX && true)) = true
      rw [hx]
      rfl
    rcases hk with rfl | rfl
    · show Out.thn (if (AV.tup [.str [115, 108, 105, 112], w]).noX = true then Out.rt (.tup [.str [115, 108, 105, 112], w]) h else Out.stuck) _ = _
      rw [if_pos (fin _)]
      rfl
    · show Out.thn (if (AV.tup [.str [111, 99, 116, 101, 116, 115], w]).noX = true then Out.rt (.tup [.str [111, 99, 116, 101, 116, 115], w]) h else Out.stuck) _ = _
      rw [if_pos (fin _)]
      rfl
  · show (true && (w.pure && true)) = true
    rw [hw]
    rfl

theorem drawn_ok (n L k most : Nat) (h : AHp) (w : Wells L h) (hk : k < L) (hm : most ≤ 10000) : ∃ (l : List Int) (h' : AHp), callN glob (n + 2) (.fn 15) [.ref k, .int most] h = .ok (.tup (ints' l)) h' ∧ Wells L h' ∧ octs l = true ∧ l.length ≤ most := by
  obtain ⟨f, h1, e1, w1, f0, f1⟩ := draw_ok n L k (most + 1) h w hk (by omega) (by omega)
  have it : iRange1 (eCall (callN glob (n + 1)) 12 (aCons (eVar 0) (aCons (eBin .Add (eVar 1) (eVal (.int 1))) aNil))) [some (.ref k), some (.int most), none] h = .ok (.items (rangeL 0 f.toNat)) h1 := by
    refine iRange_n ?_ (by unfold small62; simp only [Bool.and_eq_true, decide_eq_true_eq]; omega)
    simp only [Tp.bind_eq, ret_at, thn_ok, thn_exc, val_eq, var_eq, bin_eq, cmp_eq, asBR_bl, tB_eq, chain_eq, tTruth_eq, truth_bl, tNot_eq, tAnd_nil, tAnd_cons, tOr_nil, tOr_cons, eAnd_one, eAnd_cons, eOr_one, eOr_cons, eNot_eq, eIf_eq, tIf_eq, aNil_eq, aCons_eq, eTup_eq, eLst_eq, eIx_eq, pNo_eq, pAt_eq, eSl_eq, eCall_eq, eCallL_eq, eBlt_eq, eMeth_eq, eAttrX_eq, add_int, sub_int, lt_int, le_int, gt_int, ge_int, eq_int, ne_int, eq_bl, is_bl, is_non, isnot_non, oo_ok, oo_exc, on_nx, on_rt, on_exc, ss_nil, ss_one, ss_cons, sRet_eq, sDrop_eq, sAsg_name, sIf_eq, sRaise_eq, startA, List.map_cons, List.map_nil, List.length_cons, List.length_nil, List.cons_append, List.nil_append, List.append_nil, List.getElem?_cons_zero, List.getElem?_cons_succ, List.set_cons_zero, List.set_cons_succ, List.replicate, if_true, if_false, Bool.false_eq_true, Bool.not_true, Bool.not_false]
    exact e1
  have hr : (rangeL 0 f.toNat).length = f.toNat := by simp [rangeL]
  obtain ⟨ys, h2, e2, l, rfl, hl, ho, w2⟩ := compL_inv (g := Tp.gName 2) (q := eCall (callN glob (n + 1)) 12 (aCons (eVar 0) (aCons (eVal (.int 256)) aNil))) (env := Tp.wipe [2] [some (.ref k), some (.int most), none]) (fun i acc h' => ∃ l, acc = ints' l ∧ l.length = i ∧ octs l = true ∧ Wells L h') (rangeL 0 f.toNat) (rangeL 0 f.toNat) [] 0 h1 (Nat.zero_le _) rfl (by rw [hr]; show 0 + f.toNat ≤ 16777216; omega) ⟨[], rfl, rfl, rfl, w1⟩ (fun i y acc h' hi hp => by
    obtain ⟨l, rfl, hl, ho, w'⟩ := hp
    obtain ⟨g, h2, e2, w2, g0, g1⟩ := draw_ok n L k 256 h' w' hk (by decide) (by decide)
    refine ⟨[some (.ref k), some (.int most), some y], h', .int g, h2, rfl, ?_, l ++ [g], ?_, by rw [List.length_append, hl]; rfl, octs_app ho (by unfold octs; simp; omega), w2⟩
    · simp only [Tp.bind_eq, ret_at, thn_ok, thn_exc, val_eq, var_eq, bin_eq, cmp_eq, asBR_bl, tB_eq, chain_eq, tTruth_eq, truth_bl, tNot_eq, tAnd_nil, tAnd_cons, tOr_nil, tOr_cons, eAnd_one, eAnd_cons, eOr_one, eOr_cons, eNot_eq, eIf_eq, tIf_eq, aNil_eq, aCons_eq, eTup_eq, eLst_eq, eIx_eq, pNo_eq, pAt_eq, eSl_eq, eCall_eq, eCallL_eq, eBlt_eq, eMeth_eq, eAttrX_eq, add_int, sub_int, lt_int, le_int, gt_int, ge_int, eq_int, ne_int, eq_bl, is_bl, is_non, isnot_non, oo_ok, oo_exc, on_nx, on_rt, on_exc, ss_nil, ss_one, ss_cons, sRet_eq, sDrop_eq, sAsg_name, sIf_eq, sRaise_eq, startA, List.map_cons, List.map_nil, List.length_cons, List.length_nil, List.cons_append, List.nil_append, List.append_nil, List.getElem?_cons_zero, List.getElem?_cons_succ, List.set_cons_zero, List.set_cons_succ, List.replicate, if_true, if_false, Bool.false_eq_true, Bool.not_true, Bool.not_false]
      exact e2
    · show ints' l ++ ints' [g] = _
      rw [ints_app])
  refine ⟨l, h2, ?_, w2, ho, by rw [hl, hr]; omega⟩
  rw [_law_drawn_eq]
  refine fn_okH rfl ?_ (tup_pure l) (by rw [w2.1, w.1])
  simp only [b__law_drawn, ss_one, sRet_eq, eBlt_eq, aCons_eq, aNil_eq]
  show outOf ((((eComp _ _ _ _ _ [some (.ref k), some (.int most), none] h).thn _)).thn _) _ _ = _
  rw [eComp_items it e2]
  rfl
end Tp
end
section
set_option linter.all false
set_option maxRecDepth 100000
namespace Tp
open PySem PySem.Spec PyProof.Rows

theorem badFrom_ints : ∀ (l : List Int) (i : Nat), octs l = true → i + l.length ≤ 2000 → badFrom i (ints' l) = none
  | [], _, _, _ => rfl
  | z :: r, i, ho, hl => by
    unfold octs at ho
    simp only [List.all_cons, Bool.and_eq_true] at ho
    have e : octV (.int z) = true := by
      show (decide (0 ≤ z) && decide (z ≤ 255)) = true
      simp only [Bool.and_eq_true]
      exact ho.1
    show (if i = 2000 ∨ octV (.int z) = false then some i else badFrom (i + 1) (ints' r)) = none
    rw [e, if_neg (by simp at hl ⊢; omega)]
    exact badFrom_ints r (i + 1) ho.2 (by simp at hl; omega)
theorem badO_ints {l : List Int} (ho : octs l = true) (hl : l.length ≤ 2000) : badO (.tup (ints' l)) = [] := by
  show (match badFrom 0 (ints' l) with
    | some j => [AV.int j]
    | none => []) = []
  rw [badFrom_ints l 0 ho (by omega)]
theorem gd_int (d : Nat) (i : Int) : gd d (.int i) := by
  cases d with
  | zero => exact ⟨rfl, rfl⟩
  | succ d => exact ⟨rfl, fun xs e => by cases e⟩
theorem gd_ints (d : Nat) {l : List Int} (hl : l.length ≤ 1000000) : gd (d + 1) (.tup (ints' l)) := by
  refine ⟨?_, fun xs e => ?_⟩
  · show AV.datAll 59 (ints' l) = true
    exact ints_dat 59 l
  · cases e
    rw [ints_len]
    refine ⟨hl, fun y hy => ?_⟩
    obtain ⟨z, _, rfl⟩ := List.mem_map.mp hy
    exact gd_int d z
theorem gd_tup {d : Nat} {xs : List AV} (hl : xs.length ≤ 1000000) (hd : AV.datAll 59 xs = true) (hy : ∀ y ∈ xs, gd d y) : gd (d + 1) (.tup xs) := ⟨hd, fun ys e => by cases e; exact ⟨hl, hy⟩⟩
theorem dat_slip (d : Nat) (a b : Int) (put : List Int) : (AV.tup [.int a, .int b, .tup (ints' put)]).dat (d + 2) = true := by
  have := ints_dat d put
  simp [AV.dat, AV.datAll, this]

theorem with_good (n : Nat) (os put : List Int) (at_ many : Int) (h : AHp) (ho : octs os = true) (hl : os.length ≤ 1000) (hp : octs put = true) (hpl : put.length ≤ 1000) (h0 : 0 ≤ at_) (h1 : 0 ≤ many) (h2 : at_ + many ≤ os.length) :
    callN glob (n + 9) (.fn 10) [.tup (ints' os), .tup [.int at_, .int many, .tup (ints' put)]] h = .ok (.tup (ints' (cut os none (some at_) ++ put ++ cut os (some (at_ + many)) none))) h := by
  rw [with_slip_ok n (ints' os) _ h (ints_dat 50 os) (by rw [ints_len]; omega) (dat_slip 50 at_ many put) (fun a b xs e => by cases e; rw [ints_len]; omega) (badO_ints ho (by omega))]
  have e1 : slipV (.tup [.int at_, .int many, .tup (ints' put)]) = true := by
    show (betwV 0 2000 (.int at_) && betwV 0 2000 (.int many) && (badO (.tup (ints' put))).isEmpty) = true
    rw [badO_ints hp (by omega)]
    simp only [betwV, Bool.and_eq_true, decide_eq_true_eq, List.isEmpty_nil, and_true]
    omega
  have e2 : fitsV (ints' os).length (.tup [.int at_, .int many, .tup (ints' put)]) = true := by
    show decide (at_ + many ≤ ((ints' os).length : Int)) = true
    rw [ints_len]
    simpa using h2
  rw [e1, e2, Bool.and_self, if_pos rfl]
  show Res.ok (AV.tup (cutB (ints' os) (ints' put) at_ many)) h = _
  simp only [cutB, cut_ints, ints_app]
theorem ord_slip (x s : AV) : order ["octets", "slip"] ["slip", "octets"] [] [s, x] = some [x, s] := by rfl

def lapB (c : Calls) : DS := (sSeqs [(sAsg (eCall c 12 (aCons (eVar 0) (aCons (eBin .Add (eBlt glob .len (aCons (eVar 1) aNil)) (eVal (.int 1))) aNil))) (Tp.gName 3)), (sPar [4, 5] (aCons (eCall c 12 (aCons (eVar 0) (aCons (eBin .Add (eBin .Sub (eBlt glob .len (aCons (eVar 1) aNil)) (eVar 3)) (eVal (.int 1))) aNil))) (aCons (eCall c 15 (aCons (eVar 0) (aCons (eVal (.int 8)) aNil))) aNil))), (sAsg (eBin .Add (eBin .Add (eSl (eVar 1) pNo (pAt (eVar 3))) (eVar 5)) (eSl (eVar 1) (pAt (eBin .Add (eVar 3) (eVar 4))) pNo)) (Tp.gName 6)), (sIf (tNot (tTruth (eCall c 13 (aCons (eTup (aCons (eCall c 10 (aCons (eVar 1) (aCons (eTup (aCons (eVar 3) (aCons (eVar 4) (aCons (eVar 5) aNil)))) aNil))) (aCons (eCallK c 10 ["octets", "slip"] ["slip", "octets"] aNil (aCons (eTup (aCons (eVar 3) (aCons (eVar 4) (aCons (eVar 5) aNil)))) (aCons (eVar 1) aNil))) aNil))) (aCons (eTup (aCons (eVar 6) (aCons (eVar 6) aNil))) aNil)))))
    (sSeqs [(sRet (eVal (.bl false)))])
    (sSeqs [])), (sAsg (eVar 6) (Tp.gName 1))])
theorem add_ints {a b : List Int} {h : AHp} (hl : a.length + b.length ≤ SL) : opBin .Add (.tup (ints' a)) (.tup (ints' b)) h = .ok (.tup (ints' (a ++ b))) h := by
  rw [add_tup (by rw [ints_len, ints_len]; exact hl), ints_app]
theorem lap_ok (n L k : Nat) (h : AHp) (w : Wells L h) (hk : k < L) (os : List Int) (ho : octs os = true) (hl : os.length ≤ 500) (e2 e3 e4 e5 e6 e7 e8 : Option AV) :
    ∃ (os' : List Int) (h' : AHp) (f3 f4 f5 f6 : Option AV), lapB (callN glob (n + 20)) [some (.ref k), some (.tup (ints' os)), e2, e3, e4, e5, e6, e7, e8] h = .nx [some (.ref k), some (.tup (ints' os')), e2, f3, f4, f5, f6, e7, e8] h' ∧ Wells L h' ∧ octs os' = true ∧ os'.length ≤ os.length + 8 := by
  obtain ⟨at_, h1, a1, w1, a2, a3⟩ := draw_ok (n + 19) L k (os.length + 1) h w hk (by omega) (by omega)
  obtain ⟨many, h2, b1, w2, b2, b3⟩ := draw_ok (n + 19) L k (os.length - at_ + 1) h1 w1 hk (by omega) (by omega)
  obtain ⟨put, h3, c1, w3, c2, c3⟩ := drawn_ok (n + 18) L k 8 h2 w2 hk (by decide)
  have c3 : put.length ≤ 8 := c3
  have l1 := cut_le os none (some at_)
  have l2 := cut_le os (some (at_ + many)) none
  have due : octs (cut os none (some at_) ++ put ++ cut os (some (at_ + many)) none) = true := octs_app (octs_app (octs_sub ho cut_sub) c2) (octs_sub ho cut_sub)
  have dl : (cut os none (some at_) ++ put ++ cut os (some (at_ + many)) none).length ≤ os.length + 8 := by
    have e1 : (cut os none (some at_)).length ≤ at_.toNat := by
      unfold cut sIx
      rw [List.length_take, List.length_drop]
      simp only [if_neg (show ¬at_ < 0 by omega)]
      omega
    have e2 : (cut os (some (at_ + many)) none).length ≤ os.length - at_.toNat := by
      unfold cut sIx
      rw [List.length_take, List.length_drop]
      simp only [if_neg (show ¬at_ + many < 0 by omega)]
      omega
    rw [List.length_append, List.length_append]
    omega
  have wg := with_good (n + 11) os put at_ many h3 ho (by omega) c2 (by omega) a2 b2 (by omega)
  generalize hdue : cut os none (some at_) ++ put ++ cut os (some (at_ + many)) none = du at due dl wg
  have hSL : (SL : Nat) = 16777216 := rfl
  refine ⟨du, h3, some (.int at_), some (.int many), some (.tup (ints' put)), some (.tup (ints' du)), ?_, w3, due, dl⟩
  unfold lapB
  refine ss_nx (s_set (v := .int at_) (h1 := h1) ?_) ?_
  · simp only [Tp.bind_eq, ret_at, thn_ok, thn_exc, val_eq, var_eq, bin_eq, cmp_eq, asBR_bl, tB_eq, chain_eq, tTruth_eq, truth_bl, tNot_eq, tAnd_nil, tAnd_cons, tOr_nil, tOr_cons, eAnd_one, eAnd_cons, eOr_one, eOr_cons, eNot_eq, eIf_eq, tIf_eq, aNil_eq, aCons_eq, eTup_eq, eLst_eq, eIx_eq, pNo_eq, pAt_eq, eSl_eq, eCall_eq, eCallL_eq, eBlt_eq, eMeth_eq, eAttrX_eq, add_int, sub_int, lt_int, le_int, gt_int, ge_int, eq_int, ne_int, eq_bl, is_bl, is_non, isnot_non, oo_ok, oo_exc, on_nx, on_rt, on_exc, ss_nil, ss_one, ss_cons, sRet_eq, sDrop_eq, sAsg_name, sIf_eq, sRaise_eq, startA, List.map_cons, List.map_nil, List.length_cons, List.length_nil, List.cons_append, List.nil_append, List.append_nil, List.getElem?_cons_zero, List.getElem?_cons_succ, List.set_cons_zero, List.set_cons_succ, List.replicate, if_true, if_false, Bool.false_eq_true, Bool.not_true, Bool.not_false, builtin, bLen, lenOf, seqOf, ints_len]
    exact a1
  simp only [List.set_cons_succ, List.set_cons_zero]
  refine ss_nx (env1 := [some (.ref k), some (.tup (ints' os)), e2, some (.int at_), some (.int many), some (.tup (ints' put)), e6, e7, e8]) (h1 := h3) ?_ ?_
  · rw [sPar_eq]
    have ea : aCons (eCall (callN glob (n + 20)) 12 (aCons (eVar 0) (aCons (eBin .Add (eBin .Sub (eBlt glob .len (aCons (eVar 1) aNil)) (eVar 3)) (eVal (.int 1))) aNil))) (aCons (eCall (callN glob (n + 20)) 15 (aCons (eVar 0) (aCons (eVal (.int 8)) aNil))) aNil)
        [some (.ref k), some (.tup (ints' os)), e2, some (.int at_), e4, e5, e6, e7, e8] h1 = .ok [.int many, .tup (ints' put)] h3 := by
      simp only [Tp.bind_eq, ret_at, thn_ok, thn_exc, val_eq, var_eq, bin_eq, cmp_eq, asBR_bl, tB_eq, chain_eq, tTruth_eq, truth_bl, tNot_eq, tAnd_nil, tAnd_cons, tOr_nil, tOr_cons, eAnd_one, eAnd_cons, eOr_one, eOr_cons, eNot_eq, eIf_eq, tIf_eq, aNil_eq, aCons_eq, eTup_eq, eLst_eq, eIx_eq, pNo_eq, pAt_eq, eSl_eq, eCall_eq, eCallL_eq, eBlt_eq, eMeth_eq, eAttrX_eq, add_int, sub_int, lt_int, le_int, gt_int, ge_int, eq_int, ne_int, eq_bl, is_bl, is_non, isnot_non, oo_ok, oo_exc, on_nx, on_rt, on_exc, ss_nil, ss_one, ss_cons, sRet_eq, sDrop_eq, sAsg_name, sIf_eq, sRaise_eq, startA, List.map_cons, List.map_nil, List.length_cons, List.length_nil, List.cons_append, List.nil_append, List.append_nil, List.getElem?_cons_zero, List.getElem?_cons_succ, List.set_cons_zero, List.set_cons_succ, List.replicate, if_true, if_false, Bool.false_eq_true, Bool.not_true, Bool.not_false, builtin, bLen, lenOf, seqOf, ints_len]
      rw [show callN glob (n + 20) (.fn 12) [.ref k, .int ((os.length : Int) - at_ + 1)] h1 = _ from b1]
      simp only [thn_ok]
      rw [show callN glob (n + 20) (.fn 15) [.ref k, .int 8] h2 = _ from c1]
      simp only [thn_ok]
    rw [ea]
    rfl
  refine ss_nx (s_set (v := .tup (ints' du)) (h1 := h3) ?_) ?_
  · simp only [Tp.bind_eq, ret_at, thn_ok, thn_exc, val_eq, var_eq, bin_eq, cmp_eq, asBR_bl, tB_eq, chain_eq, tTruth_eq, truth_bl, tNot_eq, tAnd_nil, tAnd_cons, tOr_nil, tOr_cons, eAnd_one, eAnd_cons, eOr_one, eOr_cons, eNot_eq, eIf_eq, tIf_eq, aNil_eq, aCons_eq, eTup_eq, eLst_eq, eIx_eq, pNo_eq, pAt_eq, eSl_eq, eCall_eq, eCallL_eq, eBlt_eq, eMeth_eq, eAttrX_eq, add_int, sub_int, lt_int, le_int, gt_int, ge_int, eq_int, ne_int, eq_bl, is_bl, is_non, isnot_non, oo_ok, oo_exc, on_nx, on_rt, on_exc, ss_nil, ss_one, ss_cons, sRet_eq, sDrop_eq, sAsg_name, sIf_eq, sRaise_eq, startA, List.map_cons, List.map_nil, List.length_cons, List.length_nil, List.cons_append, List.nil_append, List.append_nil, List.getElem?_cons_zero, List.getElem?_cons_succ, List.set_cons_zero, List.set_cons_succ, List.replicate, if_true, if_false, Bool.false_eq_true, Bool.not_true, Bool.not_false, slice, cut_ints]
    rw [add_ints (by omega)]
    simp only [Tp.bind_eq, ret_at, thn_ok, thn_exc, val_eq, var_eq, bin_eq, cmp_eq, asBR_bl, tB_eq, chain_eq, tTruth_eq, truth_bl, tNot_eq, tAnd_nil, tAnd_cons, tOr_nil, tOr_cons, eAnd_one, eAnd_cons, eOr_one, eOr_cons, eNot_eq, eIf_eq, tIf_eq, aNil_eq, aCons_eq, eTup_eq, eLst_eq, eIx_eq, pNo_eq, pAt_eq, eSl_eq, eCall_eq, eCallL_eq, eBlt_eq, eMeth_eq, eAttrX_eq, add_int, sub_int, lt_int, le_int, gt_int, ge_int, eq_int, ne_int, eq_bl, is_bl, is_non, isnot_non, oo_ok, oo_exc, on_nx, on_rt, on_exc, ss_nil, ss_one, ss_cons, sRet_eq, sDrop_eq, sAsg_name, sIf_eq, sRaise_eq, startA, List.map_cons, List.map_nil, List.length_cons, List.length_nil, List.cons_append, List.nil_append, List.append_nil, List.getElem?_cons_zero, List.getElem?_cons_succ, List.set_cons_zero, List.set_cons_succ, List.replicate, if_true, if_false, Bool.false_eq_true, Bool.not_true, Bool.not_false]
    rw [add_ints (by rw [List.length_append]; omega), hdue]
  simp only [List.set_cons_succ, List.set_cons_zero]
  have gdu : gd 2 (.tup [.tup (ints' du), .tup (ints' du)]) := gd_tup (by simp) (by
      have := ints_dat 58 du
      simp [AV.datAll, AV.dat, this]) (fun y hy => by
      simp only [List.mem_cons, List.not_mem_nil, or_false, or_self] at hy
      rw [hy]
      exact gd_ints 0 (by omega))
  refine ss_nx (s_if0 (h1 := h3) ?_) ?_
  · refine t_not (b := true) (t_truth ?_)
    simp only [Tp.bind_eq, ret_at, thn_ok, thn_exc, val_eq, var_eq, bin_eq, cmp_eq, asBR_bl, tB_eq, chain_eq, tTruth_eq, truth_bl, tNot_eq, tAnd_nil, tAnd_cons, tOr_nil, tOr_cons, eAnd_one, eAnd_cons, eOr_one, eOr_cons, eNot_eq, eIf_eq, tIf_eq, aNil_eq, aCons_eq, eTup_eq, eLst_eq, eIx_eq, pNo_eq, pAt_eq, eSl_eq, eCall_eq, eCallL_eq, eBlt_eq, eMeth_eq, eAttrX_eq, add_int, sub_int, lt_int, le_int, gt_int, ge_int, eq_int, ne_int, eq_bl, is_bl, is_non, isnot_non, oo_ok, oo_exc, on_nx, on_rt, on_exc, ss_nil, ss_one, ss_cons, sRet_eq, sDrop_eq, sAsg_name, sIf_eq, sRaise_eq, startA, List.map_cons, List.map_nil, List.length_cons, List.length_nil, List.cons_append, List.nil_append, List.append_nil, List.getElem?_cons_zero, List.getElem?_cons_succ, List.set_cons_zero, List.set_cons_succ, List.replicate, if_true, if_false, Bool.false_eq_true, Bool.not_true, Bool.not_false, eCallK_eq, show (0 + 1 + 1 + 1 : Nat) ≤ SL from by decide, show (0 + 1 + 1 : Nat) ≤ SL from by decide]
    rw [show callN glob (n + 20) (.fn 10) [.tup (ints' os), .tup [.int at_, .int many, .tup (ints' put)]] h3 = _ from wg]
    simp only [Tp.bind_eq, ret_at, thn_ok, thn_exc, val_eq, var_eq, bin_eq, cmp_eq, asBR_bl, tB_eq, chain_eq, tTruth_eq, truth_bl, tNot_eq, tAnd_nil, tAnd_cons, tOr_nil, tOr_cons, eAnd_one, eAnd_cons, eOr_one, eOr_cons, eNot_eq, eIf_eq, tIf_eq, aNil_eq, aCons_eq, eTup_eq, eLst_eq, eIx_eq, pNo_eq, pAt_eq, eSl_eq, eCall_eq, eCallL_eq, eBlt_eq, eMeth_eq, eAttrX_eq, add_int, sub_int, lt_int, le_int, gt_int, ge_int, eq_int, ne_int, eq_bl, is_bl, is_non, isnot_non, oo_ok, oo_exc, on_nx, on_rt, on_exc, ss_nil, ss_one, ss_cons, sRet_eq, sDrop_eq, sAsg_name, sIf_eq, sRaise_eq, startA, List.map_cons, List.map_nil, List.length_cons, List.length_nil, List.cons_append, List.nil_append, List.append_nil, List.getElem?_cons_zero, List.getElem?_cons_succ, List.set_cons_zero, List.set_cons_succ, List.replicate, if_true, if_false, Bool.false_eq_true, Bool.not_true, Bool.not_false, ord_slip, show (0 + 1 + 1 + 1 : Nat) ≤ SL from by decide, show (0 + 1 + 1 : Nat) ≤ SL from by decide]
    rw [show callN glob (n + 20) (.fn 10) [.tup (ints' os), .tup [.int at_, .int many, .tup (ints' put)]] h3 = _ from wg]
    simp only [Tp.bind_eq, ret_at, thn_ok, thn_exc, val_eq, var_eq, bin_eq, cmp_eq, asBR_bl, tB_eq, chain_eq, tTruth_eq, truth_bl, tNot_eq, tAnd_nil, tAnd_cons, tOr_nil, tOr_cons, eAnd_one, eAnd_cons, eOr_one, eOr_cons, eNot_eq, eIf_eq, tIf_eq, aNil_eq, aCons_eq, eTup_eq, eLst_eq, eIx_eq, pNo_eq, pAt_eq, eSl_eq, eCall_eq, eCallL_eq, eBlt_eq, eMeth_eq, eAttrX_eq, add_int, sub_int, lt_int, le_int, gt_int, ge_int, eq_int, ne_int, eq_bl, is_bl, is_non, isnot_non, oo_ok, oo_exc, on_nx, on_rt, on_exc, ss_nil, ss_one, ss_cons, sRet_eq, sDrop_eq, sAsg_name, sIf_eq, sRaise_eq, startA, List.map_cons, List.map_nil, List.length_cons, List.length_nil, List.cons_append, List.nil_append, List.append_nil, List.getElem?_cons_zero, List.getElem?_cons_succ, List.set_cons_zero, List.set_cons_succ, List.replicate, if_true, if_false, Bool.false_eq_true, Bool.not_true, Bool.not_false, show (0 + 1 + 1 : Nat) ≤ SL from by decide]
    exact same_self 2 (n + 17) _ h3 gdu
  refine ss_nx (s_set (v := .tup (ints' du)) (h1 := h3) rfl) rfl
theorem laps_ok (n L k : Nat) (hk : k < L) (e7 e8 : Option AV) : ∀ (r : List AV) (os : List Int) (h : AHp) (e2 e3 e4 e5 e6 : Option AV), Wells L h → octs os = true → os.length + 8 * r.length ≤ 500 →
    ∃ (os' : List Int) (h' : AHp) (f2 f3 f4 f5 f6 : Option AV), forL (Tp.gName 2) (lapB (callN glob (n + 20))) r [some (.ref k), some (.tup (ints' os)), e2, e3, e4, e5, e6, e7, e8] h = .nx [some (.ref k), some (.tup (ints' os')), f2, f3, f4, f5, f6, e7, e8] h' ∧ Wells L h' ∧ octs os' = true ∧ os'.length ≤ os.length + 8 * r.length
  | [], os, h, e2, e3, e4, e5, e6, w, ho, hl => ⟨os, h, e2, e3, e4, e5, e6, rfl, w, ho, by omega⟩
  | x :: r, os, h, e2, e3, e4, e5, e6, w, ho, hl => by
    rw [List.length_cons] at hl
    obtain ⟨os1, h1, f3, f4, f5, f6, q1, w1, o1, l1⟩ := lap_ok n L k h w hk os ho (by omega) (some x) e3 e4 e5 e6 e7 e8
    obtain ⟨os2, h2, g2, g3, g4, g5, g6, q2, w2, o2, l2⟩ := laps_ok n L k hk e7 e8 r os1 h1 (some x) f3 f4 f5 f6 w1 o1 (by omega)
    refine ⟨os2, h2, g2, g3, g4, g5, g6, ?_, w2, o2, by rw [List.length_cons]; omega⟩
    rw [forL_cons]
    simp only [gName_eq, List.set_cons_succ, List.set_cons_zero]
    rw [q1, turn_nx]
    exact q2
end Tp
end
section
set_option linter.all false
set_option maxRecDepth 100000
namespace Tp
open PySem PySem.Spec PyProof.Rows

theorem chkC_ok {v : AV} {h : AHp} (hv : v.noC = true) : chkC (.ok v h) = .ok v h := by
  show (if v.noC = true then Res.ok v h else .stuck) = _
  rw [if_pos hv]

structure OddS (len : Nat) (s : AV) : Prop where
  d : s.dat 10 = true
  g : gd 8 s
  no : (slipV s && fitsV len s) = false
  sh : ∀ a b xs, s = .tup [a, b, .tup xs] → xs.length ≤ 100000
theorem gd_mono : ∀ {d : Nat} {x : AV}, gd d x → gd (d + 1) x
  | 0, x, g => ⟨g.1, fun xs e => by subst e; exact absurd g.2 (by simp [isTy])⟩
  | d + 1, x, g => ⟨g.1, fun xs e => ⟨(g.2 xs e).1, fun y hy => gd_mono ((g.2 xs e).2 y hy)⟩⟩
theorem gd_str (d : Nat) {s : List Nat} (hs : (s.all fun c => decide (c < 55296)) = true) : gd d (.str s) := by
  cases d with
  | zero => exact ⟨hs, rfl⟩
  | succ d => exact ⟨hs, fun xs e => by cases e⟩
theorem odd_lam (n : Nat) (os : List Int) (s : AV) (h : AHp) (ho : octs os = true) (hl : os.length ≤ 1000) (q : OddS os.length s) :
    callN glob (n + 10) (.clo lam_111_0 [some (.tup (ints' os)), some s]) [] h = .exc 1 s h ∧ callN glob (n + 10) (.clo lam_112_0 [some (.tup (ints' os)), some s]) [] h = .exc 1 s h := by
  have ds : s.dat 52 = true := dat_mono (by decide) q.d
  have ws := with_slip_ok n (ints' os) s h (ints_dat 50 os) (by rw [ints_len]; omega) ds q.sh (badO_ints ho (by omega))
  rw [ints_len, q.no, if_neg Bool.false_ne_true] at ws
  have nc : AV.noCo [some (.tup (ints' os)), some s] = true := by
    show (AV.noCs (ints' os) && (s.noC && true)) = true
    rw [ints_noC, dat_noC q.d]
    rfl
  constructor
  · rw [lb_111_0_eq]
    refine clo_exc rfl rfl nc ?_ (dat_pure q.d)
    simp only [lb_111_0, Tp.bind_eq, ret_at, thn_ok, thn_exc, val_eq, var_eq, bin_eq, cmp_eq, asBR_bl, tB_eq, chain_eq, tTruth_eq, truth_bl, tNot_eq, tAnd_nil, tAnd_cons, tOr_nil, tOr_cons, eAnd_one, eAnd_cons, eOr_one, eOr_cons, eNot_eq, eIf_eq, tIf_eq, aNil_eq, aCons_eq, eTup_eq, eLst_eq, eIx_eq, pNo_eq, pAt_eq, eSl_eq, eCall_eq, eCallL_eq, eBlt_eq, eMeth_eq, eAttrX_eq, add_int, sub_int, lt_int, le_int, gt_int, ge_int, eq_int, ne_int, eq_bl, is_bl, is_non, isnot_non, oo_ok, oo_exc, on_nx, on_rt, on_exc, ss_nil, ss_one, ss_cons, sRet_eq, sDrop_eq, sAsg_name, sIf_eq, sRaise_eq, startA, List.map_cons, List.map_nil, List.length_cons, List.length_nil, List.cons_append, List.nil_append, List.append_nil, List.getElem?_cons_zero, List.getElem?_cons_succ, List.set_cons_zero, List.set_cons_succ, List.replicate, if_true, if_false, Bool.false_eq_true, Bool.not_true, Bool.not_false]
    exact ws
  · rw [lb_112_0_eq]
    refine clo_exc rfl rfl nc ?_ (dat_pure q.d)
    simp only [lb_112_0, Tp.bind_eq, ret_at, thn_ok, thn_exc, val_eq, var_eq, bin_eq, cmp_eq, asBR_bl, tB_eq, chain_eq, tTruth_eq, truth_bl, tNot_eq, tAnd_nil, tAnd_cons, tOr_nil, tOr_cons, eAnd_one, eAnd_cons, eOr_one, eOr_cons, eNot_eq, eIf_eq, tIf_eq, aNil_eq, aCons_eq, eTup_eq, eLst_eq, eIx_eq, pNo_eq, pAt_eq, eSl_eq, eCall_eq, eCallL_eq, eBlt_eq, eMeth_eq, eAttrX_eq, add_int, sub_int, lt_int, le_int, gt_int, ge_int, eq_int, ne_int, eq_bl, is_bl, is_non, isnot_non, oo_ok, oo_exc, on_nx, on_rt, on_exc, ss_nil, ss_one, ss_cons, sRet_eq, sDrop_eq, sAsg_name, sIf_eq, sRaise_eq, startA, List.map_cons, List.map_nil, List.length_cons, List.length_nil, List.cons_append, List.nil_append, List.append_nil, List.getElem?_cons_zero, List.getElem?_cons_succ, List.set_cons_zero, List.set_cons_succ, List.replicate, if_true, if_false, Bool.false_eq_true, Bool.not_true, Bool.not_false, eCallK_eq, ord_slip]
    exact ws
def oddB (c : Calls) : DS := (sSeqs [(sIf (tNot (tTruth (eCall c 13 (aCons (eTup (aCons (eCallL c 14 lam_111_0 [1, 8] aNil) (aCons (eCallL c 14 lam_112_0 [1, 8] aNil) aNil))) (aCons (eBin .Mult (eTup (aCons (eTup (aCons (eVal (.str [115, 108, 105, 112])) (aCons (eVar 8) aNil))) aNil)) (eVal (.int 2))) aNil)))))
    (sSeqs [(sRet (eVal (.bl false)))])
    (sSeqs []))])
theorem mul_two {x : AV} {h : AHp} : opBin .Mult (.tup [x]) (.int 2) h = .ok (.tup [x, x]) h := rfl
theorem odd_turn (n : Nat) (os : List Int) (s : AV) (h : AHp) (ho : octs os = true) (hl : os.length ≤ 1000) (q : OddS os.length s) (w e2 e3 e4 e5 e6 e7 : Option AV) :
    oddB (callN glob (n + 20)) [w, some (.tup (ints' os)), e2, e3, e4, e5, e6, e7, some s] h = .nx [w, some (.tup (ints' os)), e2, e3, e4, e5, e6, e7, some s] h := by
  obtain ⟨l1, l2⟩ := odd_lam (n + 9) os s h ho hl q
  have k1 := kept_exc (n + 19) 1 _ _ s h (.inl rfl) (dat_pure q.d) l1
  have k2 := kept_exc (n + 19) 1 _ _ s h (.inl rfl) (dat_pure q.d) l2
  rw [if_neg (by decide)] at k1 k2
  have nc : (AV.tup [.str [115, 108, 105, 112], s]).noC = true := by
    show (true && (s.noC && true)) = true
    rw [dat_noC q.d]
    rfl
  have ds9 := dat_mono (show 10 ≤ 58 by decide) q.d
  have g1 : gd 9 (.tup [.str [115, 108, 105, 112], s]) := gd_tup (by simp) (by
    have := dat_mono (show 10 ≤ 59 by decide) q.d
    simp [AV.datAll, AV.dat, this]) (fun y hy => by
    simp only [List.mem_cons, List.not_mem_nil, or_false] at hy
    rcases hy with rfl | rfl
    · exact gd_str 8 rfl
    · exact q.g)
  have g2 : gd 10 (.tup [.tup [.str [115, 108, 105, 112], s], .tup [.str [115, 108, 105, 112], s]]) := gd_tup (by simp) (by
    simp [AV.datAll, AV.dat, ds9]) (fun y hy => by
    simp only [List.mem_cons, List.not_mem_nil, or_false, or_self] at hy
    rw [hy]
    exact g1)
  unfold oddB
  refine ss_nx (s_if0 (h1 := h) ?_) rfl
  refine t_not (b := true) (t_truth ?_)
  simp only [Tp.bind_eq, ret_at, thn_ok, thn_exc, val_eq, var_eq, bin_eq, cmp_eq, asBR_bl, tB_eq, chain_eq, tTruth_eq, truth_bl, tNot_eq, tAnd_nil, tAnd_cons, tOr_nil, tOr_cons, eAnd_one, eAnd_cons, eOr_one, eOr_cons, eNot_eq, eIf_eq, tIf_eq, aNil_eq, aCons_eq, eTup_eq, eLst_eq, eIx_eq, pNo_eq, pAt_eq, eSl_eq, eCall_eq, eCallL_eq, eBlt_eq, eMeth_eq, eAttrX_eq, add_int, sub_int, lt_int, le_int, gt_int, ge_int, eq_int, ne_int, eq_bl, is_bl, is_non, isnot_non, oo_ok, oo_exc, on_nx, on_rt, on_exc, ss_nil, ss_one, ss_cons, sRet_eq, sDrop_eq, sAsg_name, sIf_eq, sRaise_eq, startA, List.map_cons, List.map_nil, List.length_cons, List.length_nil, List.cons_append, List.nil_append, List.append_nil, List.getElem?_cons_zero, List.getElem?_cons_succ, List.set_cons_zero, List.set_cons_succ, List.replicate, if_true, if_false, Bool.false_eq_true, Bool.not_true, Bool.not_false, caps, Option.getD_some, mul_two, show (0 + 1 + 1 : Nat) ≤ SL from by decide, show (0 + 1 : Nat) ≤ SL from by decide]
  rw [show callN glob (n + 20) (.fn 14) [.clo lam_111_0 [some (.tup (ints' os)), some s]] h = _ from k1, chkC_ok nc]
  simp only [thn_ok]
  rw [show callN glob (n + 20) (.fn 14) [.clo lam_112_0 [some (.tup (ints' os)), some s]] h = _ from k2, chkC_ok nc]
  simp only [Tp.bind_eq, ret_at, thn_ok, thn_exc, val_eq, var_eq, bin_eq, cmp_eq, asBR_bl, tB_eq, chain_eq, tTruth_eq, truth_bl, tNot_eq, tAnd_nil, tAnd_cons, tOr_nil, tOr_cons, eAnd_one, eAnd_cons, eOr_one, eOr_cons, eNot_eq, eIf_eq, tIf_eq, aNil_eq, aCons_eq, eTup_eq, eLst_eq, eIx_eq, pNo_eq, pAt_eq, eSl_eq, eCall_eq, eCallL_eq, eBlt_eq, eMeth_eq, eAttrX_eq, add_int, sub_int, lt_int, le_int, gt_int, ge_int, eq_int, ne_int, eq_bl, is_bl, is_non, isnot_non, oo_ok, oo_exc, on_nx, on_rt, on_exc, ss_nil, ss_one, ss_cons, sRet_eq, sDrop_eq, sAsg_name, sIf_eq, sRaise_eq, startA, List.map_cons, List.map_nil, List.length_cons, List.length_nil, List.cons_append, List.nil_append, List.append_nil, List.getElem?_cons_zero, List.getElem?_cons_succ, List.set_cons_zero, List.set_cons_succ, List.replicate, if_true, if_false, Bool.false_eq_true, Bool.not_true, Bool.not_false, mul_two, show (0 + 1 + 1 : Nat) ≤ SL from by decide, show (0 + 1 : Nat) ≤ SL from by decide]
  exact same_self 10 (n + 9) _ h g2
theorem odds_ok (n : Nat) (os : List Int) (h : AHp) (ho : octs os = true) (hl : os.length ≤ 1000) (w e2 e3 e4 e5 e6 e7 : Option AV) : ∀ (r : List AV) (e8 : Option AV), (∀ s ∈ r, OddS os.length s) →
    ∃ f8, forL (Tp.gName 8) (oddB (callN glob (n + 20))) r [w, some (.tup (ints' os)), e2, e3, e4, e5, e6, e7, e8] h = .nx [w, some (.tup (ints' os)), e2, e3, e4, e5, e6, e7, f8] h
  | [], e8, _ => ⟨e8, rfl⟩
  | s :: r, e8, q => by
    obtain ⟨f8, e⟩ := odds_ok n os h ho hl w e2 e3 e4 e5 e6 e7 r (some s) fun s hs => q s (List.mem_cons_of_mem _ hs)
    refine ⟨f8, ?_⟩
    rw [forL_cons]
    simp only [gName_eq, List.set_cons_succ, List.set_cons_zero]
    rw [odd_turn n os s h ho hl (q s List.mem_cons_self) w e2 e3 e4 e5 e6 e7, turn_nx]
    exact e

def octB (c : Calls) : DS := (sSeqs [(sIf (tNot (tTruth (eCall c 13 (aCons (eCallL c 14 lam_116_0 [8] aNil) (aCons (eTup (aCons (eVal (.str [111, 99, 116, 101, 116, 115])) (aCons (eVar 3) aNil))) aNil)))))
    (sSeqs [(sRet (eVal (.bl false)))])
    (sSeqs []))])
structure OddO (x w : AV) : Prop where
  d : x.dat 10 = true
  l : ∀ xs, x = .tup xs → xs.length ≤ SL
  b : badO x = [w]
theorem oct_turn (n : Nat) (x v : AV) (h : AHp) (q : OddO x v) (w e1 e2 e4 e5 e6 e7 : Option AV) :
    octB (callN glob (n + 20)) [w, e1, e2, some v, e4, e5, e6, e7, some x] h = .nx [w, e1, e2, some v, e4, e5, e6, e7, some x] h := by
  have vd : ∀ m, v.dat m = true := fun m => by
    have := badO_dat x m
    rw [q.b] at this
    simpa [AV.datAll] using this
  have gv : gd 3 v := by
    rcases badO_cases x with e | e | ⟨j, e⟩ <;> rw [q.b] at e <;> cases e
    · exact ⟨rfl, fun xs e => by cases e⟩
    · exact gd_int 3 j
  have ws := with_slip_bad (n + 9) x .non v h (dat_mono (by decide) q.d) q.l rfl q.b
  have lm : callN glob (n + 19) (.clo lam_116_0 [some x]) [] h = .exc 2 v h := by
    rw [lb_116_0_eq]
    refine clo_exc rfl rfl ?_ ?_ (dat_pure (vd 5))
    · show (x.noC && true) = true
      rw [dat_noC q.d]
      rfl
    · simp only [lb_116_0, Tp.bind_eq, ret_at, thn_ok, thn_exc, val_eq, var_eq, bin_eq, cmp_eq, asBR_bl, tB_eq, chain_eq, tTruth_eq, truth_bl, tNot_eq, tAnd_nil, tAnd_cons, tOr_nil, tOr_cons, eAnd_one, eAnd_cons, eOr_one, eOr_cons, eNot_eq, eIf_eq, tIf_eq, aNil_eq, aCons_eq, eTup_eq, eLst_eq, eIx_eq, pNo_eq, pAt_eq, eSl_eq, eCall_eq, eCallL_eq, eBlt_eq, eMeth_eq, eAttrX_eq, add_int, sub_int, lt_int, le_int, gt_int, ge_int, eq_int, ne_int, eq_bl, is_bl, is_non, isnot_non, oo_ok, oo_exc, on_nx, on_rt, on_exc, ss_nil, ss_one, ss_cons, sRet_eq, sDrop_eq, sAsg_name, sIf_eq, sRaise_eq, startA, List.map_cons, List.map_nil, List.length_cons, List.length_nil, List.cons_append, List.nil_append, List.append_nil, List.getElem?_cons_zero, List.getElem?_cons_succ, List.set_cons_zero, List.set_cons_succ, List.replicate, if_true, if_false, Bool.false_eq_true, Bool.not_true, Bool.not_false]
      exact ws
  have k1 := kept_exc (n + 19) 2 _ _ v h (.inr rfl) (dat_pure (vd 5)) lm
  rw [if_pos rfl] at k1
  have nc : (AV.tup [.str [111, 99, 116, 101, 116, 115], v]).noC = true := by
    show (true && (v.noC && true)) = true
    rw [dat_noC (vd 5)]
    rfl
  have g1 : gd 4 (.tup [.str [111, 99, 116, 101, 116, 115], v]) := gd_tup (by simp) (by
    have := vd 59
    simp [AV.datAll, AV.dat, this]) (fun y hy => by
    simp only [List.mem_cons, List.not_mem_nil, or_false] at hy
    rcases hy with rfl | rfl
    · exact gd_str 3 rfl
    · exact gv)
  unfold octB
  refine ss_nx (s_if0 (h1 := h) ?_) rfl
  refine t_not (b := true) (t_truth ?_)
  simp only [Tp.bind_eq, ret_at, thn_ok, thn_exc, val_eq, var_eq, bin_eq, cmp_eq, asBR_bl, tB_eq, chain_eq, tTruth_eq, truth_bl, tNot_eq, tAnd_nil, tAnd_cons, tOr_nil, tOr_cons, eAnd_one, eAnd_cons, eOr_one, eOr_cons, eNot_eq, eIf_eq, tIf_eq, aNil_eq, aCons_eq, eTup_eq, eLst_eq, eIx_eq, pNo_eq, pAt_eq, eSl_eq, eCall_eq, eCallL_eq, eBlt_eq, eMeth_eq, eAttrX_eq, add_int, sub_int, lt_int, le_int, gt_int, ge_int, eq_int, ne_int, eq_bl, is_bl, is_non, isnot_non, oo_ok, oo_exc, on_nx, on_rt, on_exc, ss_nil, ss_one, ss_cons, sRet_eq, sDrop_eq, sAsg_name, sIf_eq, sRaise_eq, startA, List.map_cons, List.map_nil, List.length_cons, List.length_nil, List.cons_append, List.nil_append, List.append_nil, List.getElem?_cons_zero, List.getElem?_cons_succ, List.set_cons_zero, List.set_cons_succ, List.replicate, if_true, if_false, Bool.false_eq_true, Bool.not_true, Bool.not_false, caps, Option.getD_some, show (0 + 1 + 1 : Nat) ≤ SL from by decide, show (0 + 1 : Nat) ≤ SL from by decide]
  rw [show callN glob (n + 20) (.fn 14) [.clo lam_116_0 [some x]] h = _ from k1, chkC_ok nc]
  simp only [Tp.bind_eq, ret_at, thn_ok, thn_exc, val_eq, var_eq, bin_eq, cmp_eq, asBR_bl, tB_eq, chain_eq, tTruth_eq, truth_bl, tNot_eq, tAnd_nil, tAnd_cons, tOr_nil, tOr_cons, eAnd_one, eAnd_cons, eOr_one, eOr_cons, eNot_eq, eIf_eq, tIf_eq, aNil_eq, aCons_eq, eTup_eq, eLst_eq, eIx_eq, pNo_eq, pAt_eq, eSl_eq, eCall_eq, eCallL_eq, eBlt_eq, eMeth_eq, eAttrX_eq, add_int, sub_int, lt_int, le_int, gt_int, ge_int, eq_int, ne_int, eq_bl, is_bl, is_non, isnot_non, oo_ok, oo_exc, on_nx, on_rt, on_exc, ss_nil, ss_one, ss_cons, sRet_eq, sDrop_eq, sAsg_name, sIf_eq, sRaise_eq, startA, List.map_cons, List.map_nil, List.length_cons, List.length_nil, List.cons_append, List.nil_append, List.append_nil, List.getElem?_cons_zero, List.getElem?_cons_succ, List.set_cons_zero, List.set_cons_succ, List.replicate, if_true, if_false, Bool.false_eq_true, Bool.not_true, Bool.not_false, show (0 + 1 + 1 : Nat) ≤ SL from by decide, show (0 + 1 : Nat) ≤ SL from by decide]
  exact same_self 4 (n + 15) _ h g1
theorem octs_ok (n : Nat) (h : AHp) (w e1 e2 e4 e5 e6 e7 : Option AV) : ∀ (r : List (AV × AV)) (e3 e8 : Option AV), (∀ p ∈ r, OddO p.1 p.2) →
    ∃ f3 f8, forL (Tp.gTup [(Tp.gName 8), (Tp.gName 3)]) (octB (callN glob (n + 20))) (r.map fun p => .tup [p.1, p.2]) [w, e1, e2, e3, e4, e5, e6, e7, e8] h = .nx [w, e1, e2, f3, e4, e5, e6, e7, f8] h
  | [], e3, e8, _ => ⟨e3, e8, rfl⟩
  | p :: r, e3, e8, q => by
    obtain ⟨f3, f8, e⟩ := octs_ok n h w e1 e2 e4 e5 e6 e7 r (some p.2) (some p.1) fun s hs => q s (List.mem_cons_of_mem _ hs)
    refine ⟨f3, f8, ?_⟩
    rw [List.map_cons, forL_cons]
    simp only [gTup_tup, gAll_cons, gAll_nil, gName_eq, List.set_cons_succ, List.set_cons_zero]
    rw [oct_turn n p.1 p.2 h (q p List.mem_cons_self) w e1 e2 e4 e5 e6 e7, turn_nx]
    exact e

def oddL (size : Int) : List AV := [.non, .int 5, .tup [], .tup [.int 0, .int 0], .tup [.int 0, .int 0, .tup [], .tup []], .lst [.int 0, .int 0, .tup []], .tup [.int (size + 1), .int 0, .tup []], .tup [.int 0, .int (size + 1), .tup []], .tup [.int size, .int 1, .tup []], .tup [.int (0 - 1), .int 0, .tup []], .tup [.int 0, .non, .tup []], .tup [.int 0, .int 0, .lst [.int 1]], .tup [.int 0, .int 0, .tup [.int 256]], .tup [.bl true, .int 0, .tup []], .tup [.int 0, .int 0, .tup [.int (0 - 1)]], .tup [.int 0, .int 0, .tup [.non]], .tup [.int 0, .int 0, .str [97]], .tup [.str [48], .int 0, .tup []]]

def smB : Nat → AV → Bool
  | _, .non | _, .bl _ | _, .int _ => true
  | _, .str s => s.all fun c => decide (c < 55296)
  | n + 1, .tup xs => decide (xs.length ≤ 1000) && xs.attach.all fun y => smB n y.1
  | n + 1, .lst xs => decide (xs.length ≤ 1000) && xs.attach.all fun y => smB n y.1
  | _, _ => false
theorem sm_dat : ∀ {n : Nat} {x : AV}, smB n x = true → x.dat n = true
  | n, .non, _ | n, .bl _, _ | n, .int _, _ => by cases n <;> rfl
  | n, .str s, h => by cases n <;> simpa [smB, AV.dat] using h
  | n + 1, .tup xs, h => by
    simp only [smB, Bool.and_eq_true, List.all_eq_true] at h
    show AV.datAll n xs = true
    exact datAll_of fun y hy => sm_dat (h.2 ⟨y, hy⟩ (List.mem_attach _ _))
  | n + 1, .lst xs, h => by
    simp only [smB, Bool.and_eq_true, List.all_eq_true] at h
    show AV.datAll n xs = true
    exact datAll_of fun y hy => sm_dat (h.2 ⟨y, hy⟩ (List.mem_attach _ _))
  | 0, .tup _, h | 0, .lst _, h => by simp [smB] at h
  | n, .ref _, h | n, .fn _, h | n, .clo _ _, h | n, .cls _, h | n, .xcls _, h | n, .ty _, h | n, .exc _ _, h | n, .obj _ _, h | n, .dct _, h => by cases n <;> simp [smB] at h
theorem sm_gd : ∀ {n : Nat} {x : AV}, n ≤ 50 → smB n x = true → gd n x
  | 0, x, hn, h => by
    refine ⟨dat_mono (by decide) (sm_dat h), ?_⟩
    cases x <;> first | rfl | (simp [smB] at h)
  | n + 1, x, hn, h => by
    refine ⟨dat_mono (by show n + 1 ≤ 60; omega) (sm_dat h), fun xs e => ?_⟩
    subst e
    simp only [smB, Bool.and_eq_true, List.all_eq_true, decide_eq_true_eq] at h
    exact ⟨by omega, fun y hy => sm_gd (by omega) (h.2 ⟨y, hy⟩ (List.mem_attach _ _))⟩
theorem odd_of {len : Nat} {s : AV} (h : smB 8 s = true) (no : (slipV s && fitsV len s) = false) : OddS len s := by
  refine ⟨dat_mono (by decide) (sm_dat h), sm_gd (by decide) h, no, fun a b xs e => ?_⟩
  subst e
  simp only [smB, Bool.and_eq_true, List.all_eq_true, decide_eq_true_eq] at h
  have := h.2 ⟨.tup xs, by simp⟩ (List.mem_attach _ _)
  simp only [smB, Bool.and_eq_true, decide_eq_true_eq] at this
  omega
theorem oddL_ok (len : Nat) : ∀ s ∈ oddL len, OddS len s := by
  intro s hs
  unfold oddL at hs
  simp only [List.mem_cons, List.not_mem_nil, or_false] at hs
  rcases hs with rfl | rfl | rfl | rfl | rfl | rfl | rfl | rfl | rfl | rfl | rfl | rfl | rfl | rfl | rfl | rfl | rfl | rfl
  case inr.inr.inr.inr.inr.inr.inl => exact odd_of rfl (by simp [fitsV]; intro _; omega)
  case inr.inr.inr.inr.inr.inr.inr.inl => exact odd_of rfl (by simp [fitsV]; intro _; omega)
  case inr.inr.inr.inr.inr.inr.inr.inr.inl => exact odd_of rfl (by simp [fitsV]; intro _; omega)
  all_goals exact odd_of rfl rfl
theorem badFrom_last : ∀ (l : List Int) (i : Nat), octs l = true → i + l.length < 2000 → badFrom i (ints' l ++ [.bl true]) = some (i + l.length)
  | [], i, _, _ => by
    show (if i = 2000 ∨ octV (.bl true) = false then some i else badFrom (i + 1) []) = _
    rw [if_pos (.inr rfl)]
    rfl
  | z :: r, i, ho, hl => by
    unfold octs at ho
    simp only [List.all_cons, Bool.and_eq_true] at ho
    have e : octV (.int z) = true := by
      show (decide (0 ≤ z) && decide (z ≤ 255)) = true
      simp only [Bool.and_eq_true]
      exact ho.1
    rw [List.length_cons] at hl
    show (if i = 2000 ∨ octV (.int z) = false then some i else badFrom (i + 1) (ints' r ++ [.bl true])) = _
    rw [e, if_neg (by simp; omega), badFrom_last r (i + 1) ho.2 (by omega), List.length_cons]
    congr 1
    omega
def octL (os : List Int) : List (AV × AV) := [(.non, .non), (.lst (ints' os), .non), (.tup [.int 256], .int 0), (.tup [.int 0, .non], .int 1), (.tup (ints' os ++ [.bl true]), .int os.length), (.str [97], .non)]
theorem octL_ok (os : List Int) (ho : octs os = true) (hl : os.length ≤ 1000) : ∀ p ∈ octL os, OddO p.1 p.2 := by
  intro p hp
  unfold octL at hp
  simp only [List.mem_cons, List.not_mem_nil, or_false] at hp
  have hSL : (SL : Nat) = 16777216 := rfl
  rcases hp with rfl | rfl | rfl | rfl | rfl | rfl
  · exact ⟨rfl, fun xs e => (by cases e), rfl⟩
  · exact ⟨ints_dat 9 os, fun xs e => (by cases e), rfl⟩
  · exact ⟨rfl, fun xs e => (by cases e; decide), rfl⟩
  · exact ⟨rfl, fun xs e => (by cases e; decide), rfl⟩
  · refine ⟨?_, fun xs e => ?_, ?_⟩
    · show AV.datAll 9 (ints' os ++ [.bl true]) = true
      refine datAll_of fun y hy => ?_
      rcases List.mem_append.mp hy with hy | hy
      · exact datAll_mem (ints_dat 9 os) y hy
      · rw [List.mem_singleton.mp hy]; rfl
    · cases e
      rw [List.length_append, ints_len]
      simp only [List.length_cons, List.length_nil]
      omega
    · show (match badFrom 0 (ints' os ++ [.bl true]) with
        | some j => [AV.int j]
        | none => []) = _
      rw [badFrom_last os 0 ho (by omega), Nat.zero_add]
  · exact ⟨rfl, fun xs e => (by cases e), rfl⟩

theorem right_ok (n L k : Nat) (h : AHp) (w : Wells L h) (hk : k < L) : ∃ h', callN glob (n + 21) (.fn 16) [.ref k] h = .ok (.bl true) h' ∧ Wells L h' := by
  obtain ⟨os0, h1, a1, w1, o1, l1⟩ := drawn_ok (n + 18) L k 30 h w hk (by decide)
  have l1 : os0.length ≤ 30 := l1
  obtain ⟨os, h2, f2, f3, f4, f5, f6, q2, w2, o2, l2⟩ := laps_ok n L k hk none none (rangeL 0 4) os0 h1 none none none none none w1 o1 (by show os0.length + 8 * 4 ≤ 500; omega)
  have l2 : os.length ≤ os0.length + 8 * 4 := l2
  obtain ⟨f8, q3⟩ := odds_ok n os h2 o2 (by omega) (some (.ref k)) f2 f3 f4 f5 f6 (some (.int os.length)) (oddL os.length) none (oddL_ok os.length)
  obtain ⟨g3, g8, q4⟩ := octs_ok n h2 (some (.ref k)) (some (.tup (ints' os))) f2 f4 f5 f6 (some (.int os.length)) (octL os) f3 f8 (octL_ok os o2 (by omega))
  have hSL : (SL : Nat) = 16777216 := rfl
  refine ⟨h2, ?_, w2⟩
  rw [_law_right_eq]
  refine fn_okH rfl ?_ rfl (by rw [w2.1, w.1])
  rw [show startA 9 [AV.ref k] = [some (.ref k), none, none, none, none, none, none, none, none] from rfl]
  unfold b__law_right
  refine ss_nx (s_set (v := .tup (ints' os0)) (h1 := h1) ?_) ?_
  · simp only [Tp.bind_eq, ret_at, thn_ok, thn_exc, val_eq, var_eq, bin_eq, cmp_eq, asBR_bl, tB_eq, chain_eq, tTruth_eq, truth_bl, tNot_eq, tAnd_nil, tAnd_cons, tOr_nil, tOr_cons, eAnd_one, eAnd_cons, eOr_one, eOr_cons, eNot_eq, eIf_eq, tIf_eq, aNil_eq, aCons_eq, eTup_eq, eLst_eq, eIx_eq, pNo_eq, pAt_eq, eSl_eq, eCall_eq, eCallL_eq, eBlt_eq, eMeth_eq, eAttrX_eq, add_int, sub_int, lt_int, le_int, gt_int, ge_int, eq_int, ne_int, eq_bl, is_bl, is_non, isnot_non, oo_ok, oo_exc, on_nx, on_rt, on_exc, ss_nil, ss_one, ss_cons, sRet_eq, sDrop_eq, sAsg_name, sIf_eq, sRaise_eq, startA, List.map_cons, List.map_nil, List.length_cons, List.length_nil, List.cons_append, List.nil_append, List.append_nil, List.getElem?_cons_zero, List.getElem?_cons_succ, List.set_cons_zero, List.set_cons_succ, List.replicate, if_true, if_false, Bool.false_eq_true, Bool.not_true, Bool.not_false]
    exact a1
  simp only [List.set_cons_succ, List.set_cons_zero]
  refine ss_nx (s_for (xs := rangeL 0 4) (h1 := h1) (iRange_n (k := 4) rfl (by decide)) q2) ?_
  refine ss_nx (s_set (v := .int os.length) (h1 := h2) ?_) ?_
  · simp only [Tp.bind_eq, ret_at, thn_ok, thn_exc, val_eq, var_eq, bin_eq, cmp_eq, asBR_bl, tB_eq, chain_eq, tTruth_eq, truth_bl, tNot_eq, tAnd_nil, tAnd_cons, tOr_nil, tOr_cons, eAnd_one, eAnd_cons, eOr_one, eOr_cons, eNot_eq, eIf_eq, tIf_eq, aNil_eq, aCons_eq, eTup_eq, eLst_eq, eIx_eq, pNo_eq, pAt_eq, eSl_eq, eCall_eq, eCallL_eq, eBlt_eq, eMeth_eq, eAttrX_eq, add_int, sub_int, lt_int, le_int, gt_int, ge_int, eq_int, ne_int, eq_bl, is_bl, is_non, isnot_non, oo_ok, oo_exc, on_nx, on_rt, on_exc, ss_nil, ss_one, ss_cons, sRet_eq, sDrop_eq, sAsg_name, sIf_eq, sRaise_eq, startA, List.map_cons, List.map_nil, List.length_cons, List.length_nil, List.cons_append, List.nil_append, List.append_nil, List.getElem?_cons_zero, List.getElem?_cons_succ, List.set_cons_zero, List.set_cons_succ, List.replicate, if_true, if_false, Bool.false_eq_true, Bool.not_true, Bool.not_false, builtin, bLen, lenOf, seqOf, ints_len]
  simp only [List.set_cons_succ, List.set_cons_zero]
  refine ss_nx (s_for (xs := oddL os.length) (h1 := h2) (iVal_tup ?_) q3) ?_
  · simp only [Tp.bind_eq, ret_at, thn_ok, thn_exc, val_eq, var_eq, bin_eq, cmp_eq, asBR_bl, tB_eq, chain_eq, tTruth_eq, truth_bl, tNot_eq, tAnd_nil, tAnd_cons, tOr_nil, tOr_cons, eAnd_one, eAnd_cons, eOr_one, eOr_cons, eNot_eq, eIf_eq, tIf_eq, aNil_eq, aCons_eq, eTup_eq, eLst_eq, eIx_eq, pNo_eq, pAt_eq, eSl_eq, eCall_eq, eCallL_eq, eBlt_eq, eMeth_eq, eAttrX_eq, add_int, sub_int, lt_int, le_int, gt_int, ge_int, eq_int, ne_int, eq_bl, is_bl, is_non, isnot_non, oo_ok, oo_exc, on_nx, on_rt, on_exc, ss_nil, ss_one, ss_cons, sRet_eq, sDrop_eq, sAsg_name, sIf_eq, sRaise_eq, startA, List.map_cons, List.map_nil, List.length_cons, List.length_nil, List.cons_append, List.nil_append, List.append_nil, List.getElem?_cons_zero, List.getElem?_cons_succ, List.set_cons_zero, List.set_cons_succ, List.replicate, if_true, if_false, Bool.false_eq_true, Bool.not_true, Bool.not_false, oddL, SL, Nat.reduceAdd, Nat.reduceLeDiff, ↓reduceIte]
  have ap : opBin .Add (.tup (ints' os)) (.tup [.bl true]) h2 = .ok (.tup (ints' os ++ [.bl true])) h2 := add_tup (by rw [ints_len]; simp only [List.length_cons, List.length_nil]; omega)
  have bl : bList [.tup (ints' os)] h2 = .ok (.lst (ints' os)) h2 := rfl
  rw [show (octL os).map (fun p => AV.tup [p.1, p.2]) = [.tup [.non, .non], .tup [.lst (ints' os), .non], .tup [.tup [.int 256], .int 0], .tup [.tup [.int 0, .non], .int 1], .tup [.tup (ints' os ++ [.bl true]), .int os.length], .tup [.str [97], .non]] from rfl] at q4
  refine ss_nx (s_for (h1 := h2) (iVal_tup ?_) q4) ?_
  · simp only [Tp.bind_eq, ret_at, thn_ok, thn_exc, val_eq, var_eq, bin_eq, cmp_eq, asBR_bl, tB_eq, chain_eq, tTruth_eq, truth_bl, tNot_eq, tAnd_nil, tAnd_cons, tOr_nil, tOr_cons, eAnd_one, eAnd_cons, eOr_one, eOr_cons, eNot_eq, eIf_eq, tIf_eq, aNil_eq, aCons_eq, eTup_eq, eLst_eq, eIx_eq, pNo_eq, pAt_eq, eSl_eq, eCall_eq, eCallL_eq, eBlt_eq, eMeth_eq, eAttrX_eq, add_int, sub_int, lt_int, le_int, gt_int, ge_int, eq_int, ne_int, eq_bl, is_bl, is_non, isnot_non, oo_ok, oo_exc, on_nx, on_rt, on_exc, ss_nil, ss_one, ss_cons, sRet_eq, sDrop_eq, sAsg_name, sIf_eq, sRaise_eq, startA, List.map_cons, List.map_nil, List.length_cons, List.length_nil, List.cons_append, List.nil_append, List.append_nil, List.getElem?_cons_zero, List.getElem?_cons_succ, List.set_cons_zero, List.set_cons_succ, List.replicate, if_true, if_false, Bool.false_eq_true, Bool.not_true, Bool.not_false, builtin, bl, ap, SL, Nat.reduceAdd, Nat.reduceLeDiff, ↓reduceIte]
  refine ss_rt (s_ret (v := .bl true) (h1 := h2) ?_)
  have wg := with_good (n + 11) [] [7] 0 0 h2 rfl (by decide) rfl (by decide) (by decide) (by decide) (by decide)
  simp only [Tp.bind_eq, ret_at, thn_ok, thn_exc, val_eq, var_eq, bin_eq, cmp_eq, asBR_bl, tB_eq, chain_eq, tTruth_eq, truth_bl, tNot_eq, tAnd_nil, tAnd_cons, tOr_nil, tOr_cons, eAnd_one, eAnd_cons, eOr_one, eOr_cons, eNot_eq, eIf_eq, tIf_eq, aNil_eq, aCons_eq, eTup_eq, eLst_eq, eIx_eq, pNo_eq, pAt_eq, eSl_eq, eCall_eq, eCallL_eq, eBlt_eq, eMeth_eq, eAttrX_eq, add_int, sub_int, lt_int, le_int, gt_int, ge_int, eq_int, ne_int, eq_bl, is_bl, is_non, isnot_non, oo_ok, oo_exc, on_nx, on_rt, on_exc, ss_nil, ss_one, ss_cons, sRet_eq, sDrop_eq, sAsg_name, sIf_eq, sRaise_eq, startA, List.map_cons, List.map_nil, List.length_cons, List.length_nil, List.cons_append, List.nil_append, List.append_nil, List.getElem?_cons_zero, List.getElem?_cons_succ, List.set_cons_zero, List.set_cons_succ, List.replicate, if_true, if_false, Bool.false_eq_true, Bool.not_true, Bool.not_false, show (0 + 1 + 1 + 1 : Nat) ≤ SL from by decide, show (0 + 1 : Nat) ≤ SL from by decide, show (0 : Nat) ≤ SL from by decide]
  rw [show callN glob (n + 20) (.fn 10) [.tup [], .tup [.int 0, .int 0, .tup [.int 7]]] h2 = _ from wg]
  simp only [thn_ok]
  exact same_self 1 (n + 18) (.tup [.int 7]) h2 (gd_ints 0 (l := [7]) (by decide))

theorem law_ok (n : Nat) (ns : List Int) (hl : ns.length ≤ 63) : callN glob (n + 22) (.fn 17) [.lst (ints' ns)] [] = .ok (.bl true) [] := by
  obtain ⟨m, hm, hm1, hm2⟩ : ∃ m : Nat, eBlt glob .max (aCons (eVal (.int 1)) (aCons (eBlt glob .min (aCons (eBlt glob .len (aCons (eVar 0) aNil)) (aCons (eVal (.int 3)) aNil))) aNil)) [some (.lst (ints' ns)), none, none] [] = .ok (.int m) [] ∧ 1 ≤ m ∧ m ≤ 3 := by
    have mn : ∀ i j : Int, bMin [.int i, .int j] [] = .ok (.int (if j < i then j else i)) [] := fun i j => rfl
    have mx : ∀ i j : Int, bMax [.int i, .int j] [] = .ok (.int (if j > i then j else i)) [] := fun i j => rfl
    have : ∃ m : Nat, (if (if (3 : Int) < (ns.length : Int) then (3 : Int) else (ns.length : Int)) > 1 then (if (3 : Int) < (ns.length : Int) then (3 : Int) else (ns.length : Int)) else 1) = (m : Int) ∧ 1 ≤ m ∧ m ≤ 3 := by
      refine ⟨max 1 (min ns.length 3), ?_, by omega, by omega⟩
      split <;> split at * <;> omega
    obtain ⟨m, e, h1, h2⟩ := this
    refine ⟨m, ?_, h1, h2⟩
    simp only [Tp.bind_eq, ret_at, thn_ok, thn_exc, val_eq, var_eq, bin_eq, cmp_eq, asBR_bl, tB_eq, chain_eq, tTruth_eq, truth_bl, tNot_eq, tAnd_nil, tAnd_cons, tOr_nil, tOr_cons, eAnd_one, eAnd_cons, eOr_one, eOr_cons, eNot_eq, eIf_eq, tIf_eq, aNil_eq, aCons_eq, eTup_eq, eLst_eq, eIx_eq, pNo_eq, pAt_eq, eSl_eq, eCall_eq, eCallL_eq, eBlt_eq, eMeth_eq, eAttrX_eq, add_int, sub_int, lt_int, le_int, gt_int, ge_int, eq_int, ne_int, eq_bl, is_bl, is_non, isnot_non, oo_ok, oo_exc, on_nx, on_rt, on_exc, ss_nil, ss_one, ss_cons, sRet_eq, sDrop_eq, sAsg_name, sIf_eq, sRaise_eq, startA, List.map_cons, List.map_nil, List.length_cons, List.length_nil, List.cons_append, List.nil_append, List.append_nil, List.getElem?_cons_zero, List.getElem?_cons_succ, List.set_cons_zero, List.set_cons_succ, List.replicate, if_true, if_false, Bool.false_eq_true, Bool.not_true, Bool.not_false, builtin, bLen, lenOf, seqOf, lstOf, ints_len, mn, mx, e]
  have hr : ∀ q : Nat, (rangeL 0 q).length = q := fun q => by simp [rangeL]
  have gr : ∀ {q i : Nat} {y : AV}, (rangeL 0 q)[i]? = some y → y = .int i ∧ i < q := fun {q i y} hi => by
    have hil : i < q := by rw [← hr q]; exact (List.getElem?_eq_some_iff.mp hi).1
    unfold rangeL at hi
    rw [List.getElem?_map, List.getElem?_range hil] at hi
    exact ⟨by simpa using hi.symm, hil⟩
  have hSL : (SL : Nat) = 16777216 := rfl
  -- the wells
  obtain ⟨ys, h1, e1, rfl, w1⟩ := compL_inv (g := Tp.gName 2) (q := eCall (callN glob (n + 21)) 11 (aCons (eVar 0) (aCons (eVar 2) aNil))) (env := [some (.lst (ints' ns)), none, none]) (fun i acc h' => acc = (List.range i).map AV.ref ∧ Wells i h') (rangeL 0 m) (rangeL 0 m) [] 0 [] (Nat.zero_le _) rfl (by rw [hr, List.length_nil]; omega) ⟨rfl, rfl, fun j hj => absurd hj (Nat.not_lt_zero _)⟩ (fun i y acc h' hi hp => by
    obtain ⟨rfl, w⟩ := hp
    obtain ⟨rfl, him⟩ := gr hi
    obtain ⟨a, b, e⟩ := well_ok (n + 20) ns i h'
    refine ⟨[some (.lst (ints' ns)), none, some (.int i)], h', .ref h'.length, h' ++ [.lst [.int a, .int b, .int 0]], rfl, ?_, ?_, w.push⟩
    · simp only [Tp.bind_eq, ret_at, thn_ok, thn_exc, val_eq, var_eq, bin_eq, cmp_eq, asBR_bl, tB_eq, chain_eq, tTruth_eq, truth_bl, tNot_eq, tAnd_nil, tAnd_cons, tOr_nil, tOr_cons, eAnd_one, eAnd_cons, eOr_one, eOr_cons, eNot_eq, eIf_eq, tIf_eq, aNil_eq, aCons_eq, eTup_eq, eLst_eq, eIx_eq, pNo_eq, pAt_eq, eSl_eq, eCall_eq, eCallL_eq, eBlt_eq, eMeth_eq, eAttrX_eq, add_int, sub_int, lt_int, le_int, gt_int, ge_int, eq_int, ne_int, eq_bl, is_bl, is_non, isnot_non, oo_ok, oo_exc, on_nx, on_rt, on_exc, ss_nil, ss_one, ss_cons, sRet_eq, sDrop_eq, sAsg_name, sIf_eq, sRaise_eq, startA, List.map_cons, List.map_nil, List.length_cons, List.length_nil, List.cons_append, List.nil_append, List.append_nil, List.getElem?_cons_zero, List.getElem?_cons_succ, List.set_cons_zero, List.set_cons_succ, List.replicate, if_true, if_false, Bool.false_eq_true, Bool.not_true, Bool.not_false]
      exact e
    · rw [List.range_succ, List.map_append, w.1]
      rfl)
  rw [hr] at w1 e1
  have it1 : iRange1 (eBlt glob .max (aCons (eVal (.int 1)) (aCons (eBlt glob .min (aCons (eBlt glob .len (aCons (eVar 0) aNil)) (aCons (eVal (.int 3)) aNil))) aNil))) [some (.lst (ints' ns)), none, none] [] = .ok (.items (rangeL 0 m)) [] := by
    have := iRange_n hm (by unfold small62; simp only [Bool.and_eq_true, decide_eq_true_eq]; omega)
    rw [this, Int.toNat_natCast]
  have hlen : ((List.range m).map AV.ref).length = m := by simp
  -- the laps
  obtain ⟨ys2, h2, e2, rfl, w2⟩ := compL_inv (g := Tp.gName 2) (q := eCall (callN glob (n + 21)) 16 (aCons (eIx (eVar 1) (eBin .Mod (eBlt glob .int (aCons (eVar 2) aNil)) (eBlt glob .len (aCons (eVar 1) aNil)))) aNil)) (env := [some (.lst (ints' ns)), some (.lst ((List.range m).map AV.ref)), none]) (fun i acc h' => acc = List.replicate i (.bl true) ∧ Wells m h') (rangeL 0 10) (rangeL 0 10) [] 0 h1 (Nat.zero_le _) rfl (by rw [hr, List.length_nil]; omega) ⟨rfl, w1⟩ (fun i y acc h' hi hp => by
    obtain ⟨rfl, w⟩ := hp
    obtain ⟨rfl, him⟩ := gr hi
    have hkm : i % m < m := Nat.mod_lt _ (by omega)
    obtain ⟨h2, e, w2⟩ := right_ok n m (i % m) h' w hkm
    refine ⟨[some (.lst (ints' ns)), some (.lst ((List.range m).map AV.ref)), some (.int i)], h', .bl true, h2, rfl, ?_, by rw [List.replicate_succ'], w2⟩
    simp only [Tp.bind_eq, ret_at, thn_ok, thn_exc, val_eq, var_eq, bin_eq, cmp_eq, asBR_bl, tB_eq, chain_eq, tTruth_eq, truth_bl, tNot_eq, tAnd_nil, tAnd_cons, tOr_nil, tOr_cons, eAnd_one, eAnd_cons, eOr_one, eOr_cons, eNot_eq, eIf_eq, tIf_eq, aNil_eq, aCons_eq, eTup_eq, eLst_eq, eIx_eq, pNo_eq, pAt_eq, eSl_eq, eCall_eq, eCallL_eq, eBlt_eq, eMeth_eq, eAttrX_eq, add_int, sub_int, lt_int, le_int, gt_int, ge_int, eq_int, ne_int, eq_bl, is_bl, is_non, isnot_non, oo_ok, oo_exc, on_nx, on_rt, on_exc, ss_nil, ss_one, ss_cons, sRet_eq, sDrop_eq, sAsg_name, sIf_eq, sRaise_eq, startA, List.map_cons, List.map_nil, List.length_cons, List.length_nil, List.cons_append, List.nil_append, List.append_nil, List.getElem?_cons_zero, List.getElem?_cons_succ, List.set_cons_zero, List.set_cons_succ, List.replicate, if_true, if_false, Bool.false_eq_true, Bool.not_true, Bool.not_false, builtin, bInt_int, bLen, lenOf, seqOf, lstOf, hlen, mod_int, show (0 : Int) < (m : Int) by omega]
    rw [show ((i : Int) % (m : Int)) = ((i % m : Nat) : Int) from rfl, ix_lst (y := .ref (i % m)) (atI_nat (by
      rw [List.getElem?_map, List.getElem?_range hkm]
      rfl))]
    simp only [thn_ok]
    exact e)
  rw [hr] at e2
  rw [law_eq]
  refine fn_ok (h1 := h2) rfl ?_ rfl rfl
  rw [show startA 3 [AV.lst (ints' ns)] = [some (.lst (ints' ns)), none, none] from rfl]
  unfold b_law
  refine ss_nx (s_set (v := .lst ((List.range m).map AV.ref)) (h1 := h1) ?_) ?_
  · rw [eComp_items (r := .ok ((List.range m).map AV.ref) h1) it1 e1]
    rfl
  simp only [List.set_cons_succ, List.set_cons_zero]
  refine ss_rt (s_ret (v := .bl true) (h1 := h2) ?_)
  have it2 : iRange1 (eVal (.int 10)) [some (.lst (ints' ns)), some (.lst ((List.range m).map AV.ref)), none] h1 = .ok (.items (rangeL 0 10)) h1 := iRange_n (k := 10) rfl (by decide)
  rw [eBlt_eq, aCons_eq, eComp_items (r := .ok (List.replicate 10 (.bl true)) h2) it2 e2]
  simp only [thn_ok, aNil_eq]
  show bAll [.lst (List.replicate 10 (.bl true))] h2 = _
  exact bAll_rep _ _
end Tp
end
section
set_option Elab.async false
set_option linter.all false
set_option maxRecDepth 100000
set_option maxHeartbeats 0
namespace Tp
open PySem PySem.Spec PyProof.Rows
abbrev Prg : PySem.Program := PySem.Challenge.pw_touchpress_k53_whole_slips_laid
abbrev Rw : PySem.W.OpenRow := PySem.W.OpenLaw.row PySem.Challenge.rw_touchpress_k53_whole_slips_laid
def dfs : List He.DefD := srcs.map FnSrc.defD
def txt : PySem.W.Frag → Bool := txtB Prg srcs glob
abbrev hk : PySem.W.Hook := hookZ 5 dfs (lamsOf srcs) txt
def ob (s : PySem.W.SharedT) : AlZ := obsZ 5 dfs (lamsOf srcs) txt (HandSHeadRun.getT s)
theorem ob_eq (s : PySem.W.SharedT) : ob s = hk.obs s.abs := obsZ_eq (HandSHeadRun.getT_eq s)
def loose : List PySem.Str := (["is_whole", "is_between", "is_up_to", "is_tuple_of", "wrong_in", "MOST_OCTETS", "MOST_OCTET", "wrong_in_octets", "TouchError", "InvalidSlip", "InvalidOctets", "check_octets", "TRIPLE", "changed_by", "is_slip", "is_slip_of", "with_slip", "_law_well", "_law_draw", "_law_same"] : List PySem.Str) ++ (["_law_kept_by", "_law_drawn", "_law_right"] : List PySem.Str)
def lawS : FnSrc := (srcs.getLast?).getD ⟨.Pass ⟨0, 0, 0, 0⟩, "", ("", none), "", "", [], [], false, false⟩
def lawI : Nat := srcs.length - 1
theorem run (w : World) : HandSHeadRun.RunEq Rw (PySem.W.view Rw.prog [30]) hk ob 3000 loose w := by
  intro os
  kernel_rfl
end Tp
end
section
set_option linter.all false
set_option maxRecDepth 100000
set_option maxHeartbeats 0
open PySem PySem.W PySem.Calls PyProof.Rows in
theorem PySem.Challenge.cw_touchpress_k53_whole_slips_laid_holds : PySem.Challenge.rw_touchpress_k53_whole_slips_laid.Holds := by
  w_on; o_law
  refine HandSHeadRun.head_any (r := OpenLaw.row PySem.Challenge.rw_touchpress_k53_whole_slips_laid) (q := view Tp.Rw.prog [30]) (H := Tp.hk) (ob := Tp.ob) (M := 3000) (loose := Tp.loose) (d := HandSHeadRun.topDef Tp.Rw.prog 30) (kwd := []) Tp.ob_eq
    (by kernel_rfl) (fun s => by kernel_rfl) Tp.run (by kernel_rfl) (by kernel_rfl) (by kernel_rfl) (by rfl) (by first | assumption | decide +kernel) (by decide +kernel) ⟨rfl, rfl, rfl, rfl, rfl, by decide +kernel⟩ ?hw ?hc
  case hw => w_witness2
  case hc =>
    refine LamX.walk_ofTsE (l := PySem.Challenge.rw_touchpress_k53_whole_slips_laid) (n := 63) (k := 22) (x := "script") (CX := fun w => L2.CX Tp.Prg w) rfl (by decide) (by kernel_rfl) ⟨rfl, by decide, by decide⟩ ?F (fun w H s e s' z => ?_)
    · intro w mg fa h Y G hmg0
      obtain ⟨K, KX, S⟩ := Y
      have hmg : mg ("law" : PySem.Str) = some (.ref fa) := by
        have e : (HandSHeadRun.topDef Tp.Rw.prog 30).name = ("law" : PySem.Str) := by kernel_rfl
        rw [← e]
        exact hmg0
      exact ⟨K, KX, Tp.law_end (prog := Tp.Prg) (srcs := Tp.srcs) (G := Tp.glob) (n := 21) (li := 17) (sl := Tp.lawS) rfl KX G rfl (by kernel_rfl) hmg S (by kernel_rfl) (by kernel_rfl) (by kernel_rfl) (fun p hp => by
        obtain ⟨q, hq, rfl⟩ := List.mem_map.mp hp
        exact codeHd_of_K KX (S.hd q hq)) fun ns hl _ => Tp.law_ok 0 ns hl⟩
    · obtain ⟨a, B, H', cls, d, _, _, _, _, _, _, _, z⟩ := z
      exact z
end
