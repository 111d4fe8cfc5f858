import PyProof.Rows.All
import Wide.All
import OpenK.AllK
import Wide.FinOn
import PySem.Challenge.RW_routeproof_k00_prefixes
import HandS.Lambda
import HandS.WordsExc
import HandS.ListItems
import HandS.ForMost
import HandS.ForExc
import HandS.Flow
import HandS.IsInst
import HandS.TryMany
import KE.DataMinMax
import KE.DataAny
import KE.DataCmp
import KE.DataEq
import KE.SortData
import KE.DataIsa
import HandS.TupMul
import HandS.Style
import HandS.Conv
import HandS.Zip
import HandS.Iter
import HandS.Comp
import HandS.ExcOwn
import HandS.Defaults
import HandS.HeadHook4
import HandS.HeadWalk
import HandS.EndTab
import HandS.NestedK
import PyProof.ExcBaseAll.ValueError
import HandS.Head0
import HandS.Head1
import HandS.Head2
import HandS.HeadEnd
set_option Elab.async false
set_option linter.all false
set_option maxRecDepth 100000
set_option maxHeartbeats 0
namespace PP
open PySem

abbrev D := PyData

/-- a slot or a result: a value that nobody writes any more, or an object owned by this slot alone -/
inductive SV where
  | val (d : D) | own (d : D)
abbrev Fr := List (Option SV)

inductive Res (α : Type) where
  | ok (a : α) | raise (c : Str) | stuck
namespace Res
@[inline] def bind {α β : Type} (x : Res α) (f : α → Res β) : Res β := match x with
  | .ok a => f a
  | .raise c => .raise c
  | .stuck => .stuck
instance : Monad Res := { pure := Res.ok, bind := Res.bind }
def ofOpt {α : Type} : Option α → Res α
  | some a => .ok a
  | none => .stuck
@[simp] theorem bind_ok {α β : Type} (a : α) (f : α → Res β) : Res.bind (.ok a) f = f a := rfl
@[simp] theorem bind_raise {α β : Type} (c : Str) (f : α → Res β) : Res.bind (.raise c) f = .raise c := rfl
@[simp] theorem bind_stuck {α β : Type} (f : α → Res β) : Res.bind .stuck f = .stuck := rfl
@[simp] theorem ofOpt_some {α : Type} (a : α) : ofOpt (some a) = .ok a := rfl
@[simp] theorem ofOpt_none {α : Type} : ofOpt (none : Option α) = .stuck := rfl
end Res

/-- nested to at most so many floors, no dict within -/
def shal : Nat → D → Bool
  | _, .none => true
  | _, .bool _ => true
  | _, .int _ => true
  | _, .str _ => true
  | n + 1, .list xs => xs.all (shal n)
  | n + 1, .tuple xs => xs.all (shal n)
  | _, _ => false

inductive Ty where
  | int | bool | str | tuple | list
def isTy : Ty → D → Bool
  | .int, .int _ => true
  | .int, .bool _ => true
  | .bool, .bool _ => true
  | .str, .str _ => true
  | .tuple, .tuple _ => true
  | .list, .list _ => true
  | _, _ => false

inductive Op where
  | add | sub | mul | fdiv | mod | pow | neg
  | cmp (o : CmpOp)
  | isC (d : Option Bool) (pos : Bool)
  | idx | slice (lo hi : Bool) | rev
  | len | tupleOf | listOf | allOf | anyOf | maxOf | minOf | sortedOf | absOf | intOf
  | isinst (t : Ty)
  | listRange

def line : Nat := 16777216
def okLen (n : Nat) : Bool := decide (n ≤ line)

def vI (i : Int) : SV := .val (.int i)
def vB (b : Bool) : SV := .val (.bool b)

/-- Python's place -/
def ixP (n : Nat) (i : Int) : Option Nat := L2.ixN n i
def cutP (xs : List D) (lo hi : Option Int) : List D := (xs.drop (HT.sIx xs.length 0 lo)).take (HT.sIx xs.length xs.length hi - HT.sIx xs.length 0 lo)
def repP (xs : List D) (k : Int) : Option (List D) := if -(2 ^ 63) ≤ k ∧ k < 2 ^ 63 ∧ xs.length * k.toNat ≤ line then some (List.replicate k.toNat xs).flatten else none
def eqP (a b : D) : Option Bool := if shal 60 a && shal 60 b then some (PyData.eqv a b) else none
def ordB (a b : D) : Bool := PySem.W.alike a b && shal 60 a && !(match a with | .none => true | _ => false)
def ltP (a b : D) : Option Bool := if ordB a b then some (PySem.W.dataLt a b) else none
def gtP (a b : D) : Option Bool := if ordB a b then some (PySem.W.dataLt b a) else none
def inSeq (a : D) : D → Option Bool
  | .list xs => if shal 60 a && xs.all (shal 60) then some (xs.any fun y => PyData.eqv y a) else none
  | .tuple xs => if shal 60 a && xs.all (shal 60) then some (xs.any fun y => PyData.eqv y a) else none
  | _ => none
def cmpP : CmpOp → D → D → Option Bool
  | .Eq, a, b => eqP a b
  | .NotEq, a, b => (eqP a b).map not
  | .In, a, b => inSeq a b
  | .NotIn, a, b => (inSeq a b).map not
  | .Lt, a, b => ltP a b
  | .Gt, a, b => gtP a b
  | .LtE, a, b => (gtP a b).map not
  | .GtE, a, b => (ltP a b).map not
  | .Is, _, _ => none
  | .IsNot, _, _ => none
def boolsP : List D → Option (List Bool)
  | [] => some []
  | .bool b :: r => (boolsP r).map (b :: ·)
  | _ => none
def intsP : List D → Option (List Int)
  | [] => some []
  | .int b :: r => (intsP r).map (b :: ·)
  | _ => none

def alikeAllP (xs : List D) : Bool := xs.all fun x => xs.all fun y => PySem.W.alike x y
def sortableP (xs : List D) : Bool := (xs.all fun x => match x with | .tuple (_ :: _) => true | _ => false) || (xs.all fun x => match x with | .none => false | .tuple _ => false | _ => true)
def sortP (xs : List D) : Option (List D) := if alikeAllP xs && sortableP xs && xs.all (shal 60) then some (xs.mergeSort (PySem.W.dataLe false id)) else none
def bestP (o : D → D → Bool) : List D → Option D
  | [] => none
  | x :: xs => some (xs.foldl (fun a y => if o a y then y else a) x)
def noNone (xs : List D) : Bool := xs.all fun x => match x with | .none => false | _ => true
def mulOk (i j : Int) : Bool := decide ((-(2 ^ 64) < i ∧ i < 2 ^ 64) ∨ (-(2 ^ 64) < j ∧ j < 2 ^ 64))

def own (xs : List D) : SV := .own (.list xs)
def addS : List D → Option SV
  | [.int i, .int j] => some (vI (i + j))
  | [.tuple xs, .tuple ys] => if okLen (xs.length + ys.length) then some (.val (.tuple (xs ++ ys))) else none
  | [.list xs, .list ys] => if okLen (xs.length + ys.length) then some (own (xs ++ ys)) else none
  | [.str x, .str y] => if okLen (x.length + y.length) then some (.val (.str (x ++ y))) else none
  | _ => none
def subS : List D → Option SV
  | [.int i, .int j] => some (vI (i - j))
  | _ => none
def mulS : List D → Option SV
  | [.int i, .int j] => if mulOk i j then some (vI (i * j)) else none
  | [.tuple xs, .int k] => if xs.isEmpty = false ∧ 2 ≤ k ∧ k ≤ 1000 ∧ xs.length ≤ 1000 then some (.val (.tuple (List.replicate k.toNat xs).flatten)) else none
  | [.list xs, .int k] => (repP xs k).map own
  | _ => none
def fdivS : List D → Option SV
  | [.int i, .int j] => if 0 < j ∧ j < 1073741824 then some (vI (i / j)) else none
  | _ => none
def modS : List D → Option SV
  | [.int i, .int j] => if 0 < j then some (vI (i % j)) else none
  | _ => none
def powS : List D → Option SV
  | [.int i, .int j] => if 0 ≤ j ∧ j ≤ 1000 ∧ i.natAbs < 2 ^ 64 then some (vI (i ^ j.toNat)) else none
  | _ => none
def negS : List D → Option SV
  | [.int i] => some (vI (-i))
  | _ => none
def cmpS (o : CmpOp) : List D → Option SV
  | [a, b] => (cmpP o a b).map vB
  | _ => none
def isNone : D → Bool
  | .none => true
  | _ => false
def isCS (d : Option Bool) (p : Bool) : List D → Option SV
  | [a] => (match d, a with
    | none, a => some (vB (isNone a == p))
    | some b, .bool c => some (vB ((c == b) == p))
    | _, _ => none)
  | _ => none
def idxS : List D → Option SV
  | [.list xs, .int i] => ((ixP xs.length i).bind fun j => xs[j]?).map .val
  | [.tuple xs, .int i] => ((ixP xs.length i).bind fun j => xs[j]?).map .val
  | _ => none
def cutS (lo hi : Option Int) : D → Option SV
  | .list xs => some (own (cutP xs lo hi))
  | .tuple xs => some (.val (.tuple (cutP xs lo hi)))
  | _ => none
def sl00 : List D → Option SV
  | [x] => cutS none none x
  | _ => none
def sl10 : List D → Option SV
  | [x, .int i] => cutS (some i) none x
  | _ => none
def sl01 : List D → Option SV
  | [x, .int j] => cutS none (some j) x
  | _ => none
def sl11 : List D → Option SV
  | [x, .int i, .int j] => cutS (some i) (some j) x
  | _ => none
def sliceS : Bool → Bool → List D → Option SV
  | false, false => sl00
  | true, false => sl10
  | false, true => sl01
  | true, true => sl11
def revS : List D → Option SV
  | [.list xs] => some (own xs.reverse)
  | _ => none
def lenS : List D → Option SV
  | [.list xs] => some (vI xs.length)
  | [.tuple xs] => some (vI xs.length)
  | [.str x] => if okLen x.length then some (vI x.length) else none
  | _ => none
def tupleS : List D → Option SV
  | [.list xs] => some (.val (.tuple xs))
  | [.tuple xs] => some (.val (.tuple xs))
  | _ => none
def listS : List D → Option SV
  | [.list xs] => some (own xs)
  | [.tuple xs] => some (own xs)
  | _ => none
def allS : List D → Option SV
  | [.list xs] => (boolsP xs).map fun bs => vB (bs.all id)
  | _ => none
def anyS : List D → Option SV
  | [.list xs] => (boolsP xs).map fun bs => vB (bs.any id)
  | _ => none
def maxS : List D → Option SV
  | [.list xs] => if alikeAllP xs && noNone xs && xs.all (shal 60) then (bestP PySem.W.dataLt xs).map .val else none
  | _ => none
def minS : List D → Option SV
  | [.list xs] => if alikeAllP xs && noNone xs && xs.all (shal 60) then (bestP (fun a y => PySem.W.dataLt y a) xs).map .val else none
  | _ => none
def sortedS : List D → Option SV
  | [.list xs] => (sortP xs).map own
  | _ => none
def absS : List D → Option SV
  | [.int i] => some (vI (if i < 0 then -i else i))
  | _ => none
def intS : List D → Option SV
  | [.int i] => some (vI i)
  | [.bool b] => some (vI (if b then 1 else 0))
  | _ => none
def isinstS (t : Ty) : List D → Option SV
  | [d] => some (vB (isTy t d))
  | _ => none
def listRangeS : List D → Option SV
  | [.int j] => if 0 ≤ j ∧ j ≤ 16777216 then some (own ((List.range j.toNat).map fun (i : Nat) => .int i)) else none
  | [.int i, .int j] => if 0 ≤ i ∧ i ≤ 16777216 ∧ 0 ≤ j ∧ j ≤ 16777216 then some (own ((List.range (j - i).toNat).map fun (k : Nat) => .int (i + k))) else none
  | _ => none
def opSem : Op → List D → Option SV
  | .add => addS | .sub => subS | .mul => mulS | .fdiv => fdivS | .mod => modS | .pow => powS | .neg => negS
  | .cmp o => cmpS o | .isC d p => isCS d p | .idx => idxS | .slice l h => sliceS l h | .rev => revS | .len => lenS | .tupleOf => tupleS | .listOf => listS
  | .allOf => allS | .anyOf => anyS | .maxOf => maxS | .minOf => minS | .sortedOf => sortedS | .absOf => absS | .intOf => intS
  | .isinst t => isinstS t | .listRange => listRangeS

/-- what a loop walks -/
inductive IK where
  | range | enum | zip
/-- a target -/
inductive T where
  | nm (i : Nat) | tp (is : List Nat)

mutual
inductive E where
  | var (i : Nat)
  | cst (d : D)
  | op (o : Op) (es : Es)
  | tup (es : Es)
  | lst (es : Es)
  | and (a b : E) | or (a b : E) | not (a : E)
  | ife (c a b : E)
  | chain (o1 o2 : CmpOp) (ab c : Es)
  | call (f : Nat) (es : Es)
  | callio (f i : Nat) (es : Es)
  | err (tab : List (Str × Str)) (els : Str) (pre : List Nat) (e : E)
  | lc (elt : E) (tg : T) (it : I) (ifs : Es) (vs : List Nat)
  | lc2 (elt : E) (tg : T) (it : I) (ifs : Es) (tg2 : T) (it2 : I) (ifs2 : Es) (vs : List Nat)
inductive Es where
  | nil | cons (e : E) (es : Es)
inductive I where
  | ofE (e : E) | via (k : IK) (es : Es)
end

mutual
inductive S where
  | asg (tg : T) (e : E)
  | par (is : List Nat) (es : Es)
  | setI (i : Nat) (k e : E)
  | app (i : Nat) (e : E)
  | expr (e : E)
  | ret (e : E) | retN
  | ife (c : E) (a b : Ss)
  | for_ (tg : T) (it : I) (body : Ss)
  | whl (c : E) (body : Ss)
  | raise (c : Str)
  | pass | brk | cont
inductive Ss where
  | nil | cons (s : S) (r : Ss)
end

def isVar : E → Option Nat
  | .var i => some i
  | _ => none
/-- an operand: a result, or what a slot holds -/
inductive AV where
  | sv (s : SV) | bor (i : Nat)
inductive Out where
  | nx | brk | ct | rt (v : SV)

def SV.con : SV → D
  | .val d => d
  | .own d => d
def getS (fr : Fr) (i : Nat) : Option SV := (fr[i]?).join
def cont (fr : Fr) : AV → Option D
  | .sv s => some s.con
  | .bor i => (getS fr i).map SV.con
def conts (fr : Fr) : List AV → Option (List D)
  | [] => some []
  | a :: r => (cont fr a).bind fun d => (conts fr r).map (d :: ·)
/-- as a value for good -/
def frz : SV → Option D
  | .val d => some d
  | .own (.list xs) => some (.list xs)
  | _ => none
def frzs : List AV → Option (List D)
  | [] => some []
  | .sv s :: r => (frz s).bind fun d => (frzs r).map (d :: ·)
  | _ => none
def svs : List AV → Option (List SV)
  | [] => some []
  | .sv s :: r => (svs r).map (s :: ·)
  | _ => none
def rd (io : Bool) (fr : Fr) (i : Nat) : Res (Fr × SV) := match getS fr i with
  | some (.val d) => .ok (fr, .val d)
  | some (.own (.list xs)) => if io && i == 0 then .stuck else .ok (fr.set i (some (.val (.list xs))), .val (.list xs))
  | _ => .stuck
def wipeF (fr : Fr) : List Nat → Option Fr
  | [] => some fr
  | v :: vs => (wipeF fr vs).bind fun f => match f[v]? with
    | some (some (.own _)) => none
    | some _ => some (f.set v none)
    | none => none
/-- the slots vs of f as they stand in g -/
def backF (f g : Fr) : List Nat → Fr
  | [] => f
  | v :: vs => (backF f g vs).set v (getS g v)
def put1 (io : Bool) (fr : Fr) (i : Nat) (s : SV) : Res Fr := if (io && i == 0) || fr.length ≤ i then .stuck else .ok (fr.set i (some s))
def putAll (io : Bool) : Fr → List Nat → List SV → Res Fr
  | fr, [], [] => .ok fr
  | fr, i :: is, s :: ss => Res.bind (put1 io fr i s) fun f => putAll io f is ss
  | _, _, _ => .stuck
def asgT (io : Bool) (fr : Fr) : T → SV → Res Fr
  | .nm i, s => put1 io fr i s
  | .tp is, .val (.tuple ds) => putAll io fr is (ds.map .val)
  | _, _ => .stuck

/-- the lists at these slots become values for good -/
def preF (io : Bool) : Fr → List Nat → Option Fr
  | fr, [] => some fr
  | fr, i :: is => match getS fr i with
    | some (.own (.list xs)) => if io && i == 0 then none else preF io (fr.set i (some (.val (.list xs)))) is
    | some (.val _) => preF io fr is
    | _ => none
/-- what another def's body sees of a frame: no owned object -/
def blind (fr : Fr) : Fr := fr.map fun | some (.val d) => some (.val d) | _ => none
def lcLoop (step : Fr → D → Res (Fr × Option D)) : List D → Fr → List D → Res (Fr × List D)
  | [], fr, acc => .ok (fr, acc)
  | d :: ds, fr, acc => Res.bind (step fr d) fun (f, o) => lcLoop step ds f (match o with | some y => acc ++ [y] | none => acc)
def forLoop (step : Fr → D → Res (Fr × Out)) : List D → Fr → Res (Fr × Out)
  | [], fr => .ok (fr, .nx)
  | d :: ds, fr => Res.bind (step fr d) fun (f, o) => match o with
    | .nx => forLoop step ds f
    | .ct => forLoop step ds f
    | .brk => .ok (f, .nx)
    | .rt v => .ok (f, .rt v)
def whLoop (c : Fr → Res (Fr × Bool)) (b : Fr → Res (Fr × Out)) : Nat → Fr → Res (Fr × Out)
  | 0, _ => .stuck
  | n + 1, fr => Res.bind (c fr) fun (f, t) => if t then Res.bind (b f) fun (g, o) => match o with
      | .nx => whLoop c b n g
      | .ct => whLoop c b n g
      | .brk => .ok (g, .nx)
      | .rt v => .ok (g, .rt v)
    else .ok (f, .nx)
def toB : SV → Res Bool
  | .val (.bool b) => .ok b
  | _ => .stuck
/-- an operand: in a borrowing place a name stands for its slot -/
def opOf : Bool → Option Nat → Fr → Res (Fr × SV) → Res (Fr × AV)
  | true, some i, fr, _ => (match getS fr i with | some _ => .ok (fr, AV.bor i) | none => .stuck)
  | _, _, _, r => Res.bind r fun (f, s) => .ok (f, AV.sv s)
/-- what return hands back -/
def retOf (io : Bool) : Option Nat → Fr → Res (Fr × SV) → Res (Fr × Out)
  | some i, fr, _ => (match getS fr i with
        | some (.own o) => if io && i == 0 then .stuck else .ok (fr.set i none, .rt (.own o))
        | some (.val d) => .ok (fr, .rt (.val d))
        | none => .stuck)
  | none, _, r => Res.bind r fun (f, s) => .ok (f, .rt s)
/-- no exception comes out of it -/
def calm {α : Type} : Res α → Res α
  | .ok a => .ok a
  | _ => .stuck
abbrev CF := Nat → List SV → Res (SV × Option SV)

def mkRange : List D → Option (List D)
  | [.int j] => if 0 ≤ j ∧ j ≤ 16777216 then some ((List.range j.toNat).map fun (i : Nat) => .int i) else if -(2 ^ 62) ≤ j ∧ j < 0 then some [] else none
  | [.int i, .int j] => if -(2 ^ 62) ≤ i ∧ i < 2 ^ 62 ∧ -(2 ^ 62) ≤ j ∧ j < 2 ^ 62 ∧ j - i ≤ 16777216 then some ((List.range (j - i).toNat).map fun (k : Nat) => .int (i + k)) else none
  | _ => none
def enumP (xs : List D) : List D := (xs.zipIdx).map fun p => .tuple [.int p.2, p.1]
def zipP (xs ys : List D) : List D := (xs.zip ys).map fun p => .tuple [p.1, p.2]
def mkIt : IK → List D → Option (List D)
  | .range, ds => mkRange ds
  | .enum, [.list xs] => some (enumP xs)
  | .zip, [.list xs, .list ys] => some (zipP xs ys)
  | .zip, [.tuple xs, .tuple ys] => some (zipP xs ys)
  | _, _ => none
def seqP : D → Option (List D)
  | .list xs => some xs
  | .tuple xs => some xs
  | _ => none

section
variable (cf : CF) (wf : Nat) (io : Bool)
mutual
def evE : E → Fr → Res (Fr × SV)
  | .var i, fr => rd io fr i
  | .cst d, fr => .ok (fr, .val d)
  | .op o es, fr => Res.bind (evL true es fr) fun (f, as) => Res.bind (.ofOpt (conts f as)) fun ds => Res.bind (.ofOpt (opSem o ds)) fun s => .ok (f, s)
  | .tup es, fr => Res.bind (evL false es fr) fun (f, as) => Res.bind (.ofOpt (frzs as)) fun ds => if okLen ds.length then .ok (f, .val (.tuple ds)) else .stuck
  | .lst es, fr => Res.bind (evL false es fr) fun (f, as) => Res.bind (.ofOpt (frzs as)) fun ds => if okLen ds.length then .ok (f, own ds) else .stuck
  | .and a b, fr => Res.bind (evE a fr) fun (f, s) => Res.bind (toB s) fun t => if t then evE b f else .ok (f, vB false)
  | .or a b, fr => Res.bind (evE a fr) fun (f, s) => Res.bind (toB s) fun t => if t then .ok (f, vB true) else evE b f
  | .not a, fr => Res.bind (evE a fr) fun (f, s) => Res.bind (toB s) fun t => .ok (f, vB (!t))
  | .ife c a b, fr => Res.bind (evE c fr) fun (f, s) => Res.bind (toB s) fun t => if t then evE a f else evE b f
  | .chain o1 o2 ab c, fr => Res.bind (evL true ab fr) fun (f, as) => Res.bind (.ofOpt (conts f as)) fun ds => Res.bind (.ofOpt (opSem (.cmp o1) ds)) fun s => Res.bind (toB s) fun t =>
      if t then Res.bind (evL true c f) fun (g, as2) => Res.bind (.ofOpt (conts g (as.drop 1 ++ as2))) fun ds2 => Res.bind (.ofOpt (opSem (.cmp o2) ds2)) fun s2 => .ok (g, s2)
      else .ok (f, vB false)
  | .call k es, fr => Res.bind (evL false es fr) fun (f, as) => Res.bind (.ofOpt (frzs as)) fun ds => Res.bind (cf k (ds.map .val)) fun (r, _) => .ok (f, r)
  | .callio k i es, fr => match getS fr i with
    | some (.own _) => Res.bind (evL false es fr) fun (f, as) => Res.bind (.ofOpt (frzs as)) fun ds => match getS f i with
      | some (.own o) => Res.bind (calm (cf k (.own o :: ds.map .val))) fun (r, w) => match w with
        | some (.own o') => .ok (f.set i (some (.own o')), r)
        | _ => .stuck
      | _ => .stuck
    | _ => .stuck
  | .err tab els pre e, fr => Res.bind (.ofOpt (preF io fr pre)) fun f1 => match evE e (blind f1) with
    | .ok _ => .ok (f1, .val (.str els))
    | .raise c => (match tab.lookup c with | some o => .ok (f1, .val (.str o)) | none => .stuck)
    | .stuck => .stuck
  | .lc elt tg it ifs vs, fr => Res.bind (evI it fr) fun (f, xs) => Res.bind (.ofOpt (wipeF f vs)) fun f0 =>
      if okLen xs.length then Res.bind (calm (lcLoop (fun g d => Res.bind (asgT io g tg (.val d)) fun g1 => Res.bind (evTs ifs g1) fun (g2, t) =>
        if t then Res.bind (evE elt g2) fun (g3, s) => Res.bind (.ofOpt (frz s)) fun y => Res.bind (.ofOpt (wipeF g3 vs)) fun g4 => .ok (g4, some y) else Res.bind (.ofOpt (wipeF g2 vs)) fun g4 => .ok (g4, none)) xs f0 [])) fun (g, ys) =>
          .ok (backF g f vs, own ys)
      else .stuck
  | .lc2 .., _ => .stuck
/-- the tests of a clause: at most one -/
def evTs : Es → Fr → Res (Fr × Bool)
  | .nil, fr => .ok (fr, true)
  | .cons e .nil, fr => Res.bind (evE e fr) fun (f, s) => Res.bind (toB s) fun t => .ok (f, t)
  | .cons _ (.cons _ _), _ => .stuck
/-- b: names may stand as they are -/
def evL : Bool → Es → Fr → Res (Fr × List AV)
  | _, .nil, fr => .ok (fr, [])
  | b, .cons e es, fr => Res.bind (opOf b (isVar e) fr (evE e fr)) fun (f, a) => Res.bind (evL b es f) fun (g, as) => .ok (g, a :: as)
def evI : I → Fr → Res (Fr × List D)
  | .ofE e, fr => Res.bind (evE e fr) fun (f, s) => Res.bind (.ofOpt (frz s)) fun d => Res.bind (.ofOpt (seqP d)) fun xs => .ok (f, xs)
  | .via k es, fr => Res.bind (evL false es fr) fun (f, as) => Res.bind (.ofOpt (frzs as)) fun ds => Res.bind (.ofOpt (mkIt k ds)) fun xs => .ok (f, xs)
end
mutual
def evS : S → Fr → Res (Fr × Out)
  | .asg tg e, fr => Res.bind (evE cf io e fr) fun (f, s) => Res.bind (asgT io f tg s) fun g => .ok (g, .nx)
  | .par is es, fr => Res.bind (evL cf io false es fr) fun (f, as) => Res.bind (.ofOpt (svs as)) fun ss => Res.bind (putAll io f is ss) fun g => .ok (g, .nx)
  | .setI i k e, fr => Res.bind (evE cf io e fr) fun (f, s) => Res.bind (.ofOpt (frz s)) fun y => match getS f i with
    | some (.own (.list _)) => Res.bind (evL cf io true (.cons k .nil) f) fun (g, as) => Res.bind (.ofOpt (conts g as)) fun ks => match getS g i, ks with
      | some (.own (.list xs)), [.int j] => (match ixP xs.length j with
        | some n => .ok (g.set i (some (.own (.list (xs.set n y)))), .nx)
        | none => .stuck)
      | _, _ => .stuck
    | _ => .stuck
  | .app i e, fr => match getS fr i with
    | some (.own (.list _)) => Res.bind (evE cf io e fr) fun (f, s) => Res.bind (.ofOpt (frz s)) fun y => match getS f i with
      | some (.own (.list xs)) => if xs.length < line then .ok (f.set i (some (.own (.list (xs ++ [y])))), .nx) else .stuck
      | _ => .stuck
    | _ => .stuck
  | .expr e, fr => Res.bind (evE cf io e fr) fun (f, _) => .ok (f, .nx)
  | .ret e, fr => retOf io (isVar e) fr (evE cf io e fr)
  | .retN, fr => .ok (fr, .rt (.val .none))
  | .ife c a b, fr => Res.bind (evE cf io c fr) fun (f, s) => Res.bind (toB s) fun t => if t then evSs a f else evSs b f
  | .for_ tg it body, fr => Res.bind (evI cf io it fr) fun (f, xs) => forLoop (fun g d => Res.bind (asgT io g tg (.val d)) fun g1 => evSs body g1) xs f
  | .whl c body, fr => whLoop (fun f => Res.bind (evE cf io c f) fun (g, s) => Res.bind (toB s) fun t => .ok (g, t)) (fun f => evSs body f) wf fr
  | .raise c, _ => .raise c
  | .pass, fr => .ok (fr, .nx)
  | .brk, fr => .ok (fr, .brk)
  | .cont, fr => .ok (fr, .ct)
def evSs : Ss → Fr → Res (Fr × Out)
  | .nil, fr => .ok (fr, .nx)
  | .cons s r, fr => Res.bind (evS s fr) fun (f, o) => match o with
    | .nx => evSs r f
    | o => .ok (f, o)
end
end

/-- a def: its parameters' number, its slots' number, whether its first parameter is handed over to be changed -/
structure FnIR where
  np : Nat
  ns : Nat
  io : Bool
  lam : Bool
  body : Ss
def outV : Out → Res SV
  | .rt v => .ok v
  | .nx => .ok (.val .none)
  | _ => .stuck
def runF (fn : FnIR) (cf : CF) (wf : Nat) (args : List SV) : Res (SV × Option SV) :=
  if args.length = fn.np then Res.bind (evSs cf wf fn.io fn.body (args.map some ++ List.replicate (fn.ns - fn.np) none)) fun (f, o) => Res.bind (outV o) fun r =>
    if fn.io then (match getS f 0 with | some (.own o) => .ok (r, some (.own o)) | _ => .stuck) else .ok (r, none)
  else .stuck
/-- within a lambda's body a def's number is its own and this -/
def lamOff : Nat := 100000
def mixC (a c : CF) : CF := fun j args => if j < lamOff then a j args else c (j - lamOff) args
def noC : CF := fun _ _ => .stuck
/-- the program, k calls deep; behind it: one, two calls less deep -/
def callL (prog : List FnIR) (wf : Nat) : Nat → CF × CF × CF
  | 0 => (noC, noC, noC)
  | k + 1 =>
    let p := callL prog wf k
    (fun j args => match prog[j]? with
      | some fn => if fn.lam && decide (k < 2) then .stuck else runF fn (mixC p.1 p.2.2) wf args
      | none => .stuck, p.1, p.2.1)
def callF (prog : List FnIR) (wf : Nat) (k : Nat) : CF := (callL prog wf k).1
end PP

namespace PP
open PySem L2

/-! ### what values stand for -/
mutual
theorem _root_.L2.Dp.mono {K : PySem.W.Frag} {F F' : Hp} (e : Same F F') : ∀ {v : V} {d : D}, Dp K F v d → Dp K F' v d
  | _, _, .non => .non
  | _, _, .bl b => .bl b
  | _, _, .int i => .int i
  | _, _, .str x => .str x
  | _, _, .lst h a => .lst (e.seq h) (L2.DpAll.mono e a)
  | _, _, .tup h a => .tup (by
      rcases h with (h | ⟨o, h⟩) | h
      · exact .inl (.inl (e _ _ h))
      · exact .inl (.inr ⟨o, e _ _ h⟩)
      · exact .inr h) (L2.DpAll.mono e a)
theorem _root_.L2.DpAll.mono {K : PySem.W.Frag} {F F' : Hp} (e : Same F F') : ∀ {vs : List V} {ds : List D}, DpAll K F vs ds → DpAll K F' vs ds
  | _, _, .nil => .nil
  | _, _, .cons h t => .cons (L2.Dp.mono e h) (L2.DpAll.mono e t)
end
theorem _root_.L2.Same.seqT {K : PySem.W.Frag} {H H' : Hp} {a : Addr} {xs : List V} (e : Same H H') (h : SqT K H a xs) : SqT K H' a xs := by
  rcases h with (h | ⟨o, h⟩) | h
  · exact .inl (.inl (e _ _ h))
  · exact .inl (.inr ⟨o, e _ _ h⟩)
  · exact .inr h
section
variable {K : PySem.W.Frag} {F : Hp}
theorem _root_.L2.DpAll.length : ∀ {vs : List V} {ds : List D}, DpAll K F vs ds → vs.length = ds.length
  | _, _, .nil => rfl
  | _, _, .cons _ t => by simp [L2.DpAll.length t]
theorem _root_.L2.DpAll.get : ∀ {vs : List V} {ds : List D} {i : Nat} {d : D}, DpAll K F vs ds → ds[i]? = some d → ∃ v, vs[i]? = some v ∧ Dp K F v d
  | _, _, _, _, .nil, h => by simp at h
  | _, _, 0, _, .cons h _, e => by simp at e; subst e; exact ⟨_, rfl, h⟩
  | _, _, i + 1, _, .cons _ t, e => by
    obtain ⟨v, h1, h2⟩ := L2.DpAll.get (i := i) t (by simpa using e)
    exact ⟨v, by simpa using h1, h2⟩
theorem _root_.L2.DpAll.getV : ∀ {vs : List V} {ds : List D} {i : Nat} {v : V}, DpAll K F vs ds → vs[i]? = some v → ∃ d, ds[i]? = some d ∧ Dp K F v d
  | _, _, _, _, .nil, h => by simp at h
  | _, _, 0, _, .cons h _, e => by simp at e; subst e; exact ⟨_, rfl, h⟩
  | _, _, i + 1, _, .cons _ t, e => by
    obtain ⟨v, h1, h2⟩ := L2.DpAll.getV (i := i) t (by simpa using e)
    exact ⟨v, by simpa using h1, h2⟩
theorem _root_.L2.DpAll.append : ∀ {vs ws : List V} {ds es : List D}, DpAll K F vs ds → DpAll K F ws es → DpAll K F (vs ++ ws) (ds ++ es)
  | _, _, _, _, .nil, h => h
  | _, _, _, _, .cons h t, g => .cons h (L2.DpAll.append t g)
theorem _root_.L2.DpAll.set {v : V} {d : D} (h : Dp K F v d) : ∀ {vs : List V} {ds : List D} (i : Nat), DpAll K F vs ds → DpAll K F (vs.set i v) (ds.set i d)
  | _, _, _, .nil => .nil
  | _, _, 0, .cons _ t => .cons h t
  | _, _, i + 1, .cons g t => .cons g (L2.DpAll.set h i t)
theorem _root_.L2.DpAll.take : ∀ {vs : List V} {ds : List D} (n : Nat), DpAll K F vs ds → DpAll K F (vs.take n) (ds.take n)
  | _, _, 0, _ => .nil
  | _, _, n + 1, .nil => .nil
  | _, _, n + 1, .cons h t => .cons h (L2.DpAll.take n t)
theorem _root_.L2.DpAll.drop : ∀ {vs : List V} {ds : List D} (n : Nat), DpAll K F vs ds → DpAll K F (vs.drop n) (ds.drop n)
  | _, _, 0, h => h
  | _, _, n + 1, .nil => .nil
  | _, _, n + 1, .cons _ t => L2.DpAll.drop n t
theorem _root_.L2.DpAll.reverse : ∀ {vs : List V} {ds : List D}, DpAll K F vs ds → DpAll K F vs.reverse ds.reverse
  | _, _, .nil => .nil
  | _, _, .cons h t => by
    rw [List.reverse_cons, List.reverse_cons]
    exact (L2.DpAll.reverse t).append (.cons h .nil)
theorem _root_.L2.DpAll.rep {vs : List V} {ds : List D} (h : DpAll K F vs ds) : ∀ k : Nat, DpAll K F (List.replicate k vs).flatten (List.replicate k ds).flatten
  | 0 => .nil
  | k + 1 => by
    rw [List.replicate_succ, List.replicate_succ, List.flatten_cons, List.flatten_cons]
    exact h.append (L2.DpAll.rep h k)
theorem _root_.L2.DpAll.ints : ∀ ns : List Int, DpAll K F (ns.map V.int) (ns.map PyData.int)
  | [] => .nil
  | n :: ns => .cons (.int n) (L2.DpAll.ints ns)
theorem boolsP_spec : ∀ {ds : List D} {bs : List Bool}, boolsP ds = some bs → ds = bs.map PyData.bool
  | [], bs, h => by simp [boolsP] at h; subst h; rfl
  | d :: ds, bs, h => by
    cases d <;> simp [boolsP] at h
    obtain ⟨r, h1, h2⟩ := h
    subst h2
    rw [boolsP_spec h1]
    rfl
theorem _root_.L2.DpAll.bools : ∀ {vs : List V} {bs : List Bool}, DpAll K F vs (bs.map PyData.bool) → vs = bs.map V.bl
  | vs, [], h => by cases h; rfl
  | vs, b :: bs, h => by
    cases h with
    | cons h t =>
      cases h
      rw [L2.DpAll.bools t]
      rfl
end

/-- what an owned object holds -/
def Cell (K : PySem.W.Frag) (F H : Hp) (a : Addr) : D → Prop
  | .list xs => ∃ vs, H a = some (.lst vs) ∧ DpAll K F vs xs
  | _ => False
theorem Cell.monoF {K : PySem.W.Frag} {F F' H : Hp} {a : Addr} {d : D} (e : Same F F') (h : Cell K F H a d) : Cell K F' H a d := by
  cases d with
  | list xs => obtain ⟨vs, h1, h2⟩ := h; exact ⟨vs, h1, h2.mono e⟩
  | _ => exact h.elim
theorem Cell.at {K : PySem.W.Frag} {F H H' : Hp} {a : Addr} {d : D} (h : Cell K F H a d) (e : ∀ o, H a = some o → H' a = some o) : Cell K F H' a d := by
  cases d with
  | list xs => obtain ⟨vs, h1, h2⟩ := h; exact ⟨vs, e _ h1, h2⟩
  | _ => exact h.elim
theorem Cell.lst {K : PySem.W.Frag} {F H : Hp} {a : Addr} {d : D} (h : Cell K F H a d) : ∃ vs, H a = some (.lst vs) := by
  cases d with
  | list xs => obtain ⟨vs, h1, h2⟩ := h; exact ⟨_, h1⟩
  | _ => exact h.elim
theorem Cell.there {K : PySem.W.Frag} {F H : Hp} {a : Addr} {d : D} (h : Cell K F H a d) : ∃ o, H a = some o := by
  cases d with
  | list xs => obtain ⟨vs, h1, h2⟩ := h; exact ⟨_, h1⟩
  | _ => exact h.elim

/-- the def at hand: the written part, the module's names, the heaps at its entry (all; what is a value for good), the object handed over -/
structure Ctx where
  K : PySem.W.Frag
  mg : Str → Option Value
  H0 : Hp
  F0 : Hp
  io : Option Addr
  T : List (Addr × Str)

/-- no table of code objects -/
def Nt (o : HO) : Prop := ∀ ps, o ≠ .tbl ps
theorem nt_lst {vs : List V} : Nt (.lst vs) := fun ps z => by cases z
theorem nt_tup {vs : List V} : Nt (.tup vs) := fun ps z => by cases z
/-- nothing there but a table -/
def Nw (H : Hp) (b : Addr) : Prop := ∀ o, H b = some o → ¬ Nt o
theorem Nw.none {H : Hp} {b : Addr} (h : H b = none) : Nw H b := fun o e => by rw [h] at e; cases e
theorem tabs_upd {T : List (Addr × Str)} {H : Hp} {a : Addr} {vs : List V} {o : HO} (e : H a = some (.lst vs)) (t : LamX.Tabs T H) : LamX.Tabs T (upd H a o) := fun p hp => by
  obtain ⟨ps, h1, h2, h3⟩ := t p hp
  refine ⟨ps, ?_, h2, fun pos cv hc => ?_⟩
  · rw [upd_ne (fun z => by rw [z, e] at h1; cases h1)]; exact h1
  · obtain ⟨c, e1, e2⟩ := h3 pos cv hc
    refine ⟨c, e1, ?_⟩
    rw [upd_ne (fun z => by rw [z, e] at e2; unfold LamX.CodeO at e2; cases e2)]; exact e2
theorem tabs_new {T : List (Addr × Str)} {H : Hp} {a : Addr} {o : HO} (e : H a = none) (t : LamX.Tabs T H) : LamX.Tabs T (upd H a o) := t.ext fun b u q => by rw [upd_ne (ne_of_none q e)]; exact q

theorem fnt_upd {F : Hp} {a : Addr} {o : HO} (h : ∀ b o, F b = some o → Nt o) (n : Nt o) : ∀ b u, upd F a o b = some u → Nt u := fun b u e => by
  by_cases hb : b = a
  · subst hb; rw [upd_same] at e; cases e; exact n
  · rw [upd_ne hb] at e; exact h b u e
def Owned (G : Ctx) (F H : Hp) (a : Addr) (d : D) : Prop := F a = none ∧ (Nw G.H0 a ∨ G.io = some a) ∧ Cell G.K F H a d
def SlotOk (G : Ctx) (F H : Hp) (v : V) : SV → Prop
  | .val d => Dp G.K F v d
  | .own d => ∃ a, v = .ref a ∧ Owned G F H a d
/-- at heap behind: all of the entry stands, but the object handed over -/
def Keep (G : Ctx) (H : Hp) : Prop := ∀ b o, G.H0 b = some o → Nt o → G.io ≠ some b → H b = some o

structure FOk (G : Ctx) (σ : St) (F H : Hp) (fr : Fr) (ts : List (Addr × D)) : Prop where
  len : σ.length = fr.length
  slot : ∀ i s, getS fr i = some s → ∃ v, σ[i]? = some (some v) ∧ SlotOk G F H v s
  inj : ∀ i j a d e, getS fr i = some (.own d) → getS fr j = some (.own e) → σ[i]? = some (some (.ref a)) → σ[j]? = some (some (.ref a)) → i = j
  tmp : ∀ p ∈ ts, Owned G F H p.1 p.2
  tnd : (ts.map Prod.fst).Nodup
  dj : ∀ p ∈ ts, ∀ i d, getS fr i = some (.own d) → σ[i]? ≠ some (some (.ref p.1))
  sub : Same F H
  base : Same G.F0 F
  keep : Keep G H
  new : ∀ b o, F b = some o → G.F0 b = some o ∨ Nw G.H0 b
  pin : ∀ a, G.io = some a → σ[0]? = some (some (.ref a))
  tio : ∀ p ∈ ts, G.io ≠ some p.1
  ioc : ∀ a, G.io = some a → ∃ d, getS fr 0 = some (.own d)
  ios : ∀ i d a, getS fr i = some (.own d) → σ[i]? = some (some (.ref a)) → G.io = some a → i = 0
  tab : LamX.Tabs G.T H
  fnt : ∀ b o, F b = some o → Nt o

/-! ### frames -/
theorem getS_set_self {fr : Fr} {i : Nat} {s : Option SV} (h : i < fr.length) : getS (fr.set i s) i = s := by
  unfold getS; rw [List.getElem?_set_self h]; rfl
theorem getS_set_ne {fr : Fr} {i j : Nat} {s : Option SV} (h : i ≠ j) : getS (fr.set i s) j = getS fr j := by
  unfold getS; rw [List.getElem?_set_ne h]
theorem getS_lt {fr : Fr} {i : Nat} {s : SV} (h : getS fr i = some s) : i < fr.length := by
  unfold getS at h
  cases e : fr[i]? with
  | none => rw [e] at h; simp at h
  | some o => exact (List.getElem?_eq_some_iff.mp e).1
theorem getS_get {fr : Fr} {i : Nat} {s : SV} (h : getS fr i = some s) : fr[i]? = some (some s) := by
  unfold getS at h
  cases e : fr[i]? with
  | none => rw [e] at h; simp at h
  | some o => rw [e] at h; cases o <;> simp at h; rw [h]

section
variable {G : Ctx} {σ : St} {F H : Hp} {fr : Fr} {ts : List (Addr × D)}
theorem FOk.io_there (h : FOk G σ F H fr ts) {a : Addr} (e : G.io = some a) : ∃ o, H a = some o := by
  obtain ⟨d, hd⟩ := h.ioc a e
  obtain ⟨v, hv, a', rfl, ho⟩ := h.slot 0 _ hd
  have hp := h.pin a e
  rw [hv] at hp
  cases hp
  exact ho.2.2.there
theorem FOk.fresh0 (h : FOk G σ F H fr ts) {p : Addr} (n : H p = none) : Nw G.H0 p ∧ G.io ≠ some p ∧ F p = none := by
  have hio : G.io ≠ some p := fun e => by
    obtain ⟨o, ho⟩ := h.io_there e
    rw [n] at ho; cases ho
  refine ⟨?_, hio, ?_⟩
  · intro o e q
    have := h.keep p o e q hio; rw [n] at this; cases this
  · cases e : F p with
    | none => rfl
    | some o => have := h.sub p o e; rw [n] at this; cases this
theorem Owned.monoF {F' : Hp} {a : Addr} {d : D} (h : Owned G F H a d) (e : Same F F') (n : F' a = none) : Owned G F' H a d := ⟨n, h.2.1, h.2.2.monoF e⟩
theorem SlotOk.monoV {F' H' : Hp} {v : V} {d : D} (e : Same F F') (h : SlotOk G F H v (.val d)) : SlotOk G F' H' v (.val d) := L2.Dp.mono e h
theorem upd_sub {F : Hp} {p : Addr} {o : HO} (n : F p = none) : Same F (upd F p o) := fun b u e => by
  rw [upd_ne (fun z => by subst z; rw [n] at e; cases e)]; exact e
theorem upd_same_le {F H : Hp} {p : Addr} {o : HO} (s : Same F H) (hp : H p = some o) : Same (upd F p o) H := fun b u e => by
  by_cases hb : b = p
  · subst hb; rw [upd_same] at e; cases e; exact hp
  · rw [upd_ne hb] at e; exact s b u e
theorem upd_both {F H : Hp} {p : Addr} {o : HO} (s : Same F H) : Same (upd F p o) (upd H p o) := fun b u e => by
  by_cases hb : b = p
  · subst hb; rw [upd_same] at e ⊢; exact e
  · rw [upd_ne hb] at e ⊢; exact s b u e
theorem upd_none_ne {F : Hp} {p b : Addr} {o : HO} (h : b ≠ p) (n : F b = none) : upd F p o b = none := by rw [upd_ne h]; exact n

/-- what an owned slot says -/
theorem FOk.own_at (h : FOk G σ F H fr ts) {i : Nat} {d : D} (e : getS fr i = some (.own d)) : ∃ a, σ[i]? = some (some (.ref a)) ∧ Owned G F H a d := by
  obtain ⟨v, hv, a, rfl, ho⟩ := h.slot i _ e
  exact ⟨a, hv, ho⟩
theorem FOk.val_at (h : FOk G σ F H fr ts) {i : Nat} {d : D} (e : getS fr i = some (.val d)) : ∃ v, σ[i]? = some (some v) ∧ Dp G.K F v d := h.slot i _ e
theorem FOk.lt (h : FOk G σ F H fr ts) {i : Nat} {s : SV} (e : getS fr i = some s) : i < σ.length := by rw [h.len]; exact getS_lt e
/-- the address of an owned slot is no other slot's, no temp's -/
theorem FOk.apart (h : FOk G σ F H fr ts) {i j : Nat} {d e : D} {a b : Addr} (hi : getS fr i = some (.own d)) (hj : getS fr j = some (.own e)) (ha : σ[i]? = some (some (.ref a))) (hb : σ[j]? = some (some (.ref b))) (n : i ≠ j) : a ≠ b :=
  fun z => n (h.inj i j a d e hi hj ha (by rw [z]; exact hb))

/-- (1) an owned list in a slot is kept for good -/
theorem FOk.freeze (h : FOk G σ F H fr ts) {i : Nat} {xs : List D} (e : getS fr i = some (.own (.list xs))) (hio : G.io = none ∨ i ≠ 0) :
    ∃ a F', σ[i]? = some (some (.ref a)) ∧ Same F F' ∧ FOk G σ F' H (fr.set i (some (.val (.list xs)))) ts ∧ Dp G.K F' (.ref a) (.list xs) := by
  obtain ⟨a, ha, n, hn0, vs, hv, hd⟩ := h.own_at e
  have s1 : Same F (upd F a (.lst vs)) := upd_sub n
  have hl : i < fr.length := getS_lt e
  have nio : G.io ≠ some a := fun z => by
    have := h.ios i _ a e ha z
    rcases hio with q | q
    · rw [q] at z; cases z
    · exact q this
  have h0a : Nw G.H0 a := hn0.resolve_right nio
  have dpa : Dp G.K (upd F a (.lst vs)) (.ref a) (.list xs) := .lst (SqL.of upd_same) (hd.mono s1)
  refine ⟨a, _, ha, s1, ?_, dpa⟩
  have back : ∀ j s, getS (fr.set i (some (.val (.list xs)))) j = some (.own s) → getS fr j = some (.own s) ∧ j ≠ i := fun j s q => by
    by_cases hj : i = j
    · subst hj; rw [getS_set_self hl] at q; cases q
    · rw [getS_set_ne hj] at q; exact ⟨q, Ne.symm hj⟩
  refine ⟨by rw [List.length_set]; exact h.len, fun j s q => ?_, fun j k b d e' q1 q2 => h.inj j k b d e' (back j d q1).1 (back k e' q2).1, fun p hp => ?_, h.tnd, fun p hp j d q => h.dj p hp j d (back j d q).1,
    upd_same_le h.sub hv, h.base.trans s1, h.keep, fun b o q => ?_, h.pin, h.tio, fun a' z => ?_, fun j d b q => h.ios j d b (back j d q).1, h.tab, fnt_upd h.fnt nt_lst⟩
  · by_cases hj : i = j
    · subst hj
      rw [getS_set_self hl] at q; cases q
      exact ⟨_, ha, dpa⟩
    · rw [getS_set_ne hj] at q
      obtain ⟨v, h1, h2⟩ := h.slot j s q
      refine ⟨v, h1, ?_⟩
      cases s with
      | val d => exact L2.Dp.mono s1 h2
      | own d =>
        obtain ⟨b, rfl, ho⟩ := h2
        exact ⟨b, rfl, ho.monoF s1 (upd_none_ne (h.apart q e h1 ha (Ne.symm hj)) ho.1)⟩
  · have ho := h.tmp p hp
    refine ho.monoF s1 (upd_none_ne (fun z => h.dj p hp i _ e (by rw [z]; exact ha)) ho.1)
  · by_cases hb : b = a
    · subst hb; exact .inr h0a
    · rw [upd_ne hb] at q; exact h.new b o q
  · obtain ⟨d, hd'⟩ := h.ioc a' z
    refine ⟨d, ?_⟩
    rw [getS_set_ne (fun q => ?_)]
    · exact hd'
    · rcases hio with w | w
      · rw [w] at z; cases z
      · exact w q
/-- (2) a temp is kept for good -/
theorem FOk.freezeT {a : Addr} {xs : List D} (h : FOk G σ F H fr ((a, .list xs) :: ts)) : ∃ F', Same F F' ∧ FOk G σ F' H fr ts ∧ Dp G.K F' (.ref a) (.list xs) := by
  obtain ⟨n, hn0, vs, hv, hd⟩ := h.tmp _ (List.mem_cons_self)
  have s1 : Same F (upd F a (.lst vs)) := upd_sub n
  have nio : G.io ≠ some a := h.tio _ (List.mem_cons_self)
  have h0a : Nw G.H0 a := hn0.resolve_right nio
  have dpa : Dp G.K (upd F a (.lst vs)) (.ref a) (.list xs) := .lst (SqL.of upd_same) (hd.mono s1)
  have nd := h.tnd
  rw [List.map_cons, List.nodup_cons] at nd
  refine ⟨_, s1, ⟨h.len, fun j s q => ?_, h.inj, fun p hp => ?_, nd.2, fun p hp => h.dj p (List.mem_cons_of_mem _ hp), upd_same_le h.sub hv, h.base.trans s1, h.keep, fun b o q => ?_, h.pin, fun p hp => h.tio p (List.mem_cons_of_mem _ hp), h.ioc, h.ios, h.tab, fnt_upd h.fnt nt_lst⟩, dpa⟩
  · obtain ⟨v, h1, h2⟩ := h.slot j s q
    refine ⟨v, h1, ?_⟩
    cases s with
    | val d => exact L2.Dp.mono s1 h2
    | own d =>
      obtain ⟨b, rfl, ho⟩ := h2
      exact ⟨b, rfl, ho.monoF s1 (upd_none_ne (fun z => h.dj _ (List.mem_cons_self) j _ q (by rw [← z]; exact h1)) ho.1)⟩
  · have ho := h.tmp p (List.mem_cons_of_mem _ hp)
    refine ho.monoF s1 (upd_none_ne (fun z => nd.1 (List.mem_map.mpr ⟨p, hp, z⟩)) ho.1)
  · by_cases hb : b = a
    · subst hb; exact .inr h0a
    · rw [upd_ne hb] at q; exact h.new b o q
/-- (3) a value is stored -/
theorem FOk.putV (h : FOk G σ F H fr ts) {i : Nat} {v : V} {d : D} (hi : i < fr.length) (hio : G.io = none ∨ i ≠ 0) (hd : Dp G.K F v d) : FOk G (σ.set i (some v)) F H (fr.set i (some (.val d))) ts := by
  have hσ : i < σ.length := by rw [h.len]; exact hi
  have back : ∀ j s, getS (fr.set i (some (.val d))) j = some (.own s) → getS fr j = some (.own s) ∧ i ≠ j := fun j s q => by
    by_cases hj : i = j
    · subst hj; rw [getS_set_self hi] at q; cases q
    · rw [getS_set_ne hj] at q; exact ⟨q, hj⟩
  have sg : ∀ j s, getS (fr.set i (some (.val d))) j = some (.own s) → (σ.set i (some v))[j]? = σ[j]? := fun j s q => List.getElem?_set_ne (back j s q).2
  have no0 : ∀ a, G.io = some a → i ≠ 0 := fun a z => hio.resolve_left (by rw [z]; simp)
  refine ⟨by rw [List.length_set, List.length_set]; exact h.len, fun j s q => ?_, fun j k b d' e' q1 q2 q3 q4 => h.inj j k b d' e' (back j _ q1).1 (back k _ q2).1 (by rw [← sg j _ q1]; exact q3) (by rw [← sg k _ q2]; exact q4), h.tmp, h.tnd,
    fun p hp j d' q => by rw [sg j _ q]; exact h.dj p hp j d' (back j _ q).1, h.sub, h.base, h.keep, h.new, fun a z => ?_, h.tio, fun a z => ?_, fun j d' b q q2 => h.ios j d' b (back j _ q).1 (by rw [← sg j _ q]; exact q2), h.tab, h.fnt⟩
  · by_cases hj : i = j
    · subst hj
      rw [getS_set_self hi] at q; cases q
      exact ⟨v, List.getElem?_set_self hσ, hd⟩
    · rw [getS_set_ne hj] at q
      obtain ⟨u, h1, h2⟩ := h.slot j s q
      exact ⟨u, by rw [List.getElem?_set_ne hj]; exact h1, h2⟩
  · rw [List.getElem?_set_ne (no0 a z)]; exact h.pin a z
  · obtain ⟨d', q⟩ := h.ioc a z
    exact ⟨d', by rw [getS_set_ne (no0 a z)]; exact q⟩
/-- (4) a temp is stored -/
theorem FOk.putO {a : Addr} {d : D} (h : FOk G σ F H fr ((a, d) :: ts)) {i : Nat} (hi : i < fr.length) (hio : G.io = none ∨ i ≠ 0) : FOk G (σ.set i (some (.ref a))) F H (fr.set i (some (.own d))) ts := by
  have hσ : i < σ.length := by rw [h.len]; exact hi
  have ho := h.tmp _ (List.mem_cons_self)
  have nd := h.tnd
  rw [List.map_cons, List.nodup_cons] at nd
  have no0 : ∀ a, G.io = some a → i ≠ 0 := fun a z => hio.resolve_left (by rw [z]; simp)
  have cs : ∀ j s, getS (fr.set i (some (.own d))) j = some s → (i = j ∧ s = .own d) ∨ (i ≠ j ∧ getS fr j = some s) := fun j s q => by
    by_cases hj : i = j
    · subst hj; rw [getS_set_self hi] at q; cases q; exact .inl ⟨rfl, rfl⟩
    · rw [getS_set_ne hj] at q; exact .inr ⟨hj, q⟩
  refine ⟨by rw [List.length_set, List.length_set]; exact h.len, fun j s q => ?_, fun j k b d' e' q1 q2 q3 q4 => ?_, fun p hp => h.tmp p (List.mem_cons_of_mem _ hp), nd.2,
    fun p hp j d' q => ?_, h.sub, h.base, h.keep, h.new, fun a' z => ?_, fun p hp => h.tio p (List.mem_cons_of_mem _ hp), fun a' z => ?_, fun j d' b q q2 z => ?_, h.tab, h.fnt⟩
  · rcases cs j s q with ⟨rfl, rfl⟩ | ⟨hj, q'⟩
    · exact ⟨_, List.getElem?_set_self hσ, a, rfl, ho⟩
    · obtain ⟨u, h1, h2⟩ := h.slot j s q'
      exact ⟨u, by rw [List.getElem?_set_ne hj]; exact h1, h2⟩
  · rcases cs j _ q1 with ⟨rfl, _⟩ | ⟨hj, q1'⟩
    · rcases cs k _ q2 with ⟨rfl, _⟩ | ⟨hk, q2'⟩
      · rfl
      · rw [List.getElem?_set_self hσ] at q3; cases q3
        rw [List.getElem?_set_ne hk] at q4
        exact absurd q4 (h.dj _ (List.mem_cons_self) k _ q2')
    · rw [List.getElem?_set_ne hj] at q3
      rcases cs k _ q2 with ⟨rfl, _⟩ | ⟨hk, q2'⟩
      · rw [List.getElem?_set_self hσ] at q4; cases q4
        exact absurd q3 (h.dj _ (List.mem_cons_self) j _ q1')
      · rw [List.getElem?_set_ne hk] at q4
        exact h.inj j k b _ _ q1' q2' q3 q4
  · rcases cs j _ q with ⟨rfl, _⟩ | ⟨hj, q'⟩
    · rw [List.getElem?_set_self hσ]
      intro z
      have z' : a = p.1 := by injection z with z; injection z with z; injection z
      exact nd.1 (List.mem_map.mpr ⟨p, hp, z'.symm⟩)
    · rw [List.getElem?_set_ne hj]; exact h.dj p (List.mem_cons_of_mem _ hp) j _ q'
  · rw [List.getElem?_set_ne (no0 a' z)]; exact h.pin a' z
  · obtain ⟨d', q⟩ := h.ioc a' z
    exact ⟨d', by rw [getS_set_ne (no0 a' z)]; exact q⟩
  · rcases cs j _ q with ⟨rfl, _⟩ | ⟨hj, q'⟩
    · rw [List.getElem?_set_self hσ] at q2; cases q2
      exact absurd z (h.tio _ (List.mem_cons_self))
    · rw [List.getElem?_set_ne hj] at q2
      exact h.ios j _ b q' q2 z

/-- (5) a new list -/
theorem FOk.newL (h : FOk G σ F H fr ts) {p : Addr} {vs : List V} {ds : List D} (n : H p = none) (hd : DpAll G.K F vs ds) : FOk G σ F (upd H p (.lst vs)) fr ((p, .list ds) :: ts) := by
  obtain ⟨n0, nio, nF⟩ := h.fresh0 n
  have st : ∀ b o, H b = some o → upd H p (.lst vs) b = some o := fun b o e => by rw [upd_ne (ne_of_none e n)]; exact e
  have ow : ∀ {a d}, Owned G F H a d → Owned G F (upd H p (.lst vs)) a d := fun {a d} ho => ⟨ho.1, ho.2.1, ho.2.2.at (st a)⟩
  have npt : ∀ {a d}, Owned G F H a d → a ≠ p := fun {a d} ho => by obtain ⟨o, e⟩ := ho.2.2.there; exact ne_of_none e n
  refine ⟨h.len, fun j s q => ?_, h.inj, fun q hq => ?_, ?_, fun q hq j d hj => ?_, h.sub.trans (fun b o e => st b o e), h.base, fun b o e t z => st b o (h.keep b o e t z), h.new, h.pin, fun q hq => ?_, h.ioc, h.ios, tabs_new n h.tab, h.fnt⟩
  · obtain ⟨v, h1, h2⟩ := h.slot j s q
    refine ⟨v, h1, ?_⟩
    cases s with
    | val d => exact h2
    | own d => obtain ⟨b, rfl, ho⟩ := h2; exact ⟨b, rfl, ow ho⟩
  · rcases List.mem_cons.mp hq with rfl | hq
    · exact ⟨nF, .inl n0, vs, upd_same, hd⟩
    · exact ow (h.tmp q hq)
  · rw [List.map_cons, List.nodup_cons]
    refine ⟨fun hm => ?_, h.tnd⟩
    obtain ⟨q, hq, e⟩ := List.mem_map.mp hm
    exact npt (h.tmp q hq) e
  · rcases List.mem_cons.mp hq with rfl | hq
    · intro z
      obtain ⟨a, ha, ho⟩ := h.own_at hj
      rw [ha] at z
      have z' : a = p := by injection z with z; injection z with z; injection z
      exact npt ho z'
    · exact h.dj q hq j d hj
  · rcases List.mem_cons.mp hq with rfl | hq
    · exact nio
    · exact h.tio q hq
/-- .. a new tuple, a value at once -/
theorem FOk.newT (h : FOk G σ F H fr ts) {p : Addr} {vs : List V} {ds : List D} (n : H p = none) (hd : DpAll G.K F vs ds) :
    Same F (upd F p (.tup vs)) ∧ FOk G σ (upd F p (.tup vs)) (upd H p (.tup vs)) fr ts ∧ Dp G.K (upd F p (.tup vs)) (.ref p) (.tuple ds) := by
  obtain ⟨n0, nio, nF⟩ := h.fresh0 n
  have s1 : Same F (upd F p (.tup vs)) := upd_sub nF
  have st : ∀ b o, H b = some o → upd H p (.tup vs) b = some o := fun b o e => by rw [upd_ne (ne_of_none e n)]; exact e
  have ow : ∀ {a d}, Owned G F H a d → Owned G (upd F p (.tup vs)) (upd H p (.tup vs)) a d := fun {a d} ho => by
    obtain ⟨o, e⟩ := ho.2.2.there
    exact ⟨upd_none_ne (ne_of_none e n) ho.1, ho.2.1, (ho.2.2.monoF s1).at (st a)⟩
  refine ⟨s1, ⟨h.len, fun j s q => ?_, h.inj, fun q hq => ow (h.tmp q hq), h.tnd, h.dj, upd_both h.sub, h.base.trans s1, fun b o e t z => st b o (h.keep b o e t z), fun b o q => ?_, h.pin, h.tio, h.ioc, h.ios, tabs_new n h.tab, fnt_upd h.fnt nt_tup⟩, .tup (SqT.of upd_same) (hd.mono s1)⟩
  · obtain ⟨v, h1, h2⟩ := h.slot j s q
    refine ⟨v, h1, ?_⟩
    cases s with
    | val d => exact L2.Dp.mono s1 h2
    | own d => obtain ⟨b, rfl, ho⟩ := h2; exact ⟨b, rfl, ow ho⟩
  · by_cases hb : b = p
    · subst hb; exact .inr n0
    · rw [upd_ne hb] at q; exact h.new b o q
/-- (6) an owned list in a slot is written -/
theorem FOk.write (h : FOk G σ F H fr ts) {i : Nat} {d : D} {a : Addr} {ws : List V} {ys : List D} (e : getS fr i = some (.own d)) (ha : σ[i]? = some (some (.ref a))) (hd : DpAll G.K F ws ys) :
    FOk G σ F (upd H a (.lst ws)) (fr.set i (some (.own (.list ys)))) ts := by
  obtain ⟨a', ha', n, hn0, hc⟩ := h.own_at e
  have hl : i < fr.length := getS_lt e
  obtain rfl : a' = a := by rw [ha] at ha'; cases ha'; rfl
  have back : ∀ j s, getS (fr.set i (some (.own (.list ys)))) j = some (.own s) → ∃ s', getS fr j = some (.own s') := fun j s q => by
    by_cases hj : i = j
    · subst hj; exact ⟨d, e⟩
    · rw [getS_set_ne hj] at q; exact ⟨s, q⟩
  have st : ∀ b o, b ≠ a' → H b = some o → upd H a' (.lst ws) b = some o := fun b o hb q => by rw [upd_ne hb]; exact q
  refine ⟨by rw [List.length_set]; exact h.len, fun j s q => ?_, fun j k b d' e' q1 q2 q3 q4 => ?_, fun p hp => ?_, h.tnd, fun p hp j d' q => ?_, fun b o q => ?_, h.base, fun b o q t z => ?_, h.new, h.pin, h.tio, fun b z => ?_, fun j d' b q q2 z => ?_, tabs_upd (e := hc.lst.choose_spec) h.tab, h.fnt⟩
  · by_cases hj : i = j
    · subst hj
      rw [getS_set_self hl] at q; cases q
      exact ⟨_, ha, a', rfl, n, hn0, ws, upd_same, hd⟩
    · rw [getS_set_ne hj] at q
      obtain ⟨v, h1, h2⟩ := h.slot j s q
      refine ⟨v, h1, ?_⟩
      cases s with
      | val d => exact h2
      | own d' =>
        obtain ⟨b, rfl, ho⟩ := h2
        exact ⟨b, rfl, ho.1, ho.2.1, ho.2.2.at fun o z => st b o (h.apart q e h1 ha (Ne.symm hj)) z⟩
  · obtain ⟨_, q1⟩ := back j _ q1
    obtain ⟨_, q2⟩ := back k _ q2
    exact h.inj j k b _ _ q1 q2 q3 q4
  · have ho := h.tmp p hp
    exact ⟨ho.1, ho.2.1, ho.2.2.at fun o z => st _ o (fun w => h.dj p hp i d e (by rw [w]; exact ha)) z⟩
  · obtain ⟨_, q⟩ := back j _ q
    exact h.dj p hp j _ q
  · exact st b o (fun z => by subst z; rw [n] at q; cases q) (h.sub b o q)
  · refine st b o (fun w => ?_) (h.keep b o q t z)
    subst w
    rcases hn0 with w | w
    · exact w o q t
    · exact z w
  · by_cases hj : i = 0
    · subst hj; exact ⟨_, getS_set_self hl⟩
    · obtain ⟨d', q⟩ := h.ioc b z
      exact ⟨d', by rw [getS_set_ne hj]; exact q⟩
  · obtain ⟨d2, q⟩ := back j _ q
    exact h.ios j d2 b q q2 z
/-- (8) behind a call: what was owned stands, but what was handed over -/
theorem FOk.after (h : FOk G σ F H fr ts) {F' H' : Hp} (sF : Same F F') (sub : Same F' H') (kp : ∀ b o, H b = some o → Nt o → H' b = some o) (nw : ∀ b o, F' b = some o → F b = some o ∨ Nw H b) (tb : LamX.Tabs G.T H') (fn : ∀ b o, F' b = some o → Nt o) : FOk G σ F' H' fr ts := by
  have ow : ∀ {a d}, Owned G F H a d → Owned G F' H' a d := fun {a d} ho => by
    obtain ⟨vs, w⟩ := ho.2.2.lst
    refine ⟨?_, ho.2.1, (ho.2.2.monoF sF).at fun o e => kp a o e (by rw [w] at e; cases e; exact nt_lst)⟩
    cases q : F' a with
    | none => rfl
    | some o =>
      rcases nw a o q with z | z
      · rw [ho.1] at z; cases z
      · exact (z _ w nt_lst).elim
  refine ⟨h.len, fun j s q => ?_, h.inj, fun p hp => ow (h.tmp p hp), h.tnd, h.dj, sub, h.base.trans sF, fun b o e t z => kp b o (h.keep b o e t z) t, fun b o q => ?_, h.pin, h.tio, h.ioc, h.ios, tb, fn⟩
  · obtain ⟨v, h1, h2⟩ := h.slot j s q
    refine ⟨v, h1, ?_⟩
    cases s with
    | val d => exact L2.Dp.mono sF h2
    | own d => obtain ⟨b, rfl, ho⟩ := h2; exact ⟨b, rfl, ow ho⟩
  · rcases nw b o q with z | z
    · exact h.new b o z
    · right
      intro u w t
      by_cases hio : G.io = some b
      · obtain ⟨d, hd⟩ := h.ioc b hio
        obtain ⟨v, hv, a', rfl, ho⟩ := h.slot 0 _ hd
        have hp := h.pin b hio
        rw [hv] at hp
        cases hp
        obtain ⟨vs, w'⟩ := ho.2.2.lst
        exact z _ w' nt_lst
      · exact z _ (h.keep b u w t hio) t
/-- temps in another order -/
theorem FOk.perm {ts' : List (Addr × D)} (h : FOk G σ F H fr ts) (p : ts'.Perm ts) : FOk G σ F H fr ts' :=
  ⟨h.len, h.slot, h.inj, fun q hq => h.tmp q (p.mem_iff.mp hq), (p.map Prod.fst).nodup_iff.mpr h.tnd, fun q hq => h.dj q (p.mem_iff.mp hq), h.sub, h.base, h.keep, h.new, h.pin, fun q hq => h.tio q (p.mem_iff.mp hq), h.ioc, h.ios, h.tab, h.fnt⟩
/-- a temp forgotten -/
theorem FOk.drop1 {t : Addr × D} (h : FOk G σ F H fr (t :: ts)) : FOk G σ F H fr ts := by
  have nd := h.tnd
  rw [List.map_cons, List.nodup_cons] at nd
  exact ⟨h.len, h.slot, h.inj, fun q hq => h.tmp q (List.mem_cons_of_mem _ hq), nd.2, fun q hq => h.dj q (List.mem_cons_of_mem _ hq), h.sub, h.base, h.keep, h.new, h.pin, fun q hq => h.tio q (List.mem_cons_of_mem _ hq), h.ioc, h.ios, h.tab, h.fnt⟩
theorem FOk.dropAll {us : List (Addr × D)} : ∀ {vs : List (Addr × D)}, FOk G σ F H fr (vs ++ us) → FOk G σ F H fr us
  | [], h => h
  | _ :: _, h => FOk.dropAll h.drop1
end
end PP

namespace PP
open PySem L2

/-! ### operands -/
inductive AvsOk (K : PySem.W.Frag) (F : Hp) (σ : St) : List V → List AV → List (Addr × D) → Prop
  | nil : AvsOk K F σ [] [] []
  | val {v vs d as ts} : Dp K F v d → AvsOk K F σ vs as ts → AvsOk K F σ (v :: vs) (.sv (.val d) :: as) ts
  | own {a vs d as ts} : AvsOk K F σ vs as ts → AvsOk K F σ (.ref a :: vs) (.sv (.own d) :: as) ((a, d) :: ts)
  | bor {v i vs as ts} : σ[i]? = some (some v) → AvsOk K F σ vs as ts → AvsOk K F σ (v :: vs) (.bor i :: as) ts
section
variable {K : PySem.W.Frag} {F F' : Hp} {σ : St}
theorem AvsOk.mono (e : Same F F') : ∀ {vs as ts}, AvsOk K F σ vs as ts → AvsOk K F' σ vs as ts
  | _, _, _, .nil => .nil
  | _, _, _, .val h t => .val (L2.Dp.mono e h) (AvsOk.mono e t)
  | _, _, _, .own t => .own (AvsOk.mono e t)
  | _, _, _, .bor h t => .bor h (AvsOk.mono e t)
theorem AvsOk.cons1 : ∀ {v a vs as t1 ts}, AvsOk K F σ [v] [a] t1 → AvsOk K F σ vs as ts → AvsOk K F σ (v :: vs) (a :: as) (t1 ++ ts)
  | _, _, _, _, _, _, .val h .nil, t => .val h t
  | _, _, _, _, _, _, .own .nil, t => .own t
  | _, _, _, _, _, _, .bor h .nil, t => .bor h t
end

/-- what may be read: a value for good, or an owned list as it stands -/
def RdOk (G : Ctx) (F H : Hp) (v : V) (d : D) : Prop := Dp G.K F v d ∨ ∃ a vs ds, v = .ref a ∧ d = .list ds ∧ H a = some (.lst vs) ∧ DpAll G.K F vs ds
inductive RdAll (G : Ctx) (F H : Hp) : List V → List D → Prop
  | nil : RdAll G F H [] []
  | cons {v vs d ds} : RdOk G F H v d → RdAll G F H vs ds → RdAll G F H (v :: vs) (d :: ds)
section
variable {G : Ctx} {F H : Hp} {σ : St} {fr : Fr} {ts : List (Addr × D)}
theorem RdOk.dp (s : Same F H) {v : V} {d : D} (h : RdOk G F H v d) : Dp G.K H v d := by
  rcases h with h | ⟨a, vs, ds, rfl, rfl, h1, h2⟩
  · exact L2.Dp.mono s h
  · exact .lst (SqL.of h1) (h2.mono s)
theorem RdOk.of_cell {a : Addr} {d : D} (h : Cell G.K F H a d) : RdOk G F H (.ref a) d := by
  cases d with
  | list xs => obtain ⟨vs, h1, h2⟩ := h; exact .inr ⟨a, vs, xs, rfl, rfl, h1, h2⟩
  | _ => exact h.elim
theorem rd_of : ∀ {vs : List V} {as : List AV} {ts' : List (Addr × D)} {ds : List D}, AvsOk G.K F σ vs as ts' → (∀ p ∈ ts', Owned G F H p.1 p.2) → FOk G σ F H fr ts → conts fr as = some ds → RdAll G F H vs ds
  | _, _, _, ds, .nil, _, _, e => by simp [conts] at e; subst e; exact .nil
  | _, _, _, ds, .val hd t, ht, h, e => by
    simp only [conts, cont, Option.bind_some, Option.map_eq_some_iff] at e
    obtain ⟨es, e1, rfl⟩ := e
    exact .cons (.inl hd) (rd_of t ht h e1)
  | _, _, _, ds, .own t, ht, h, e => by
    simp only [conts, cont, Option.bind_some, Option.map_eq_some_iff] at e
    obtain ⟨es, e1, rfl⟩ := e
    exact .cons (.of_cell (ht _ (List.mem_cons_self)).2.2) (rd_of t (fun p hp => ht p (List.mem_cons_of_mem _ hp)) h e1)
  | _, _, _, ds, .bor (i := i) hv t, ht, h, e => by
    simp only [conts, cont] at e
    cases q : getS fr i with
    | none => rw [q] at e; simp at e
    | some s =>
      rw [q] at e
      simp only [Option.map_some, Option.bind_some, Option.map_eq_some_iff] at e
      obtain ⟨es, e1, rfl⟩ := e
      refine .cons ?_ (rd_of t ht h e1)
      obtain ⟨u, h1, h2⟩ := h.slot i s q
      rw [hv] at h1; cases h1
      cases s with
      | val d => exact .inl h2
      | own d => obtain ⟨a, rfl, ho⟩ := h2; exact .of_cell ho.2.2
end

/-! ### readings -/
def okE (G : Ctx) (σ : St) (F : Hp) (fr : Fr) (ts : List (Addr × D)) (s : SV) (Q : VK) : Prop :=
  ∀ (v : V) (F' H' : Hp), Same F F' → (match s with
    | .val d => Dp G.K F' v d ∧ FOk G σ F' H' fr ts
    | .own d => ∃ a, v = .ref a ∧ FOk G σ F' H' fr ((a, d) :: ts)) → Q v H'
def okX (G : Ctx) (W : WX) (σ : St) (c : Str) : Prop := ∀ (H' : Hp) (d : Option Addr) (u : Value), Keep G H' → LamX.Tabs G.T H' → G.mg c = some u → W u d σ H'
def okL (G : Ctx) (σ : St) (F : Hp) (fr : Fr) (ts : List (Addr × D)) (as : List AV) (Q : List V → Hp → Prop) : Prop :=
  ∀ (vs : List V) (F' H' : Hp) (ts' : List (Addr × D)), Same F F' → AvsOk G.K F' σ vs as ts' → FOk G σ F' H' fr (ts' ++ ts) → Q vs H'
def okB (G : Ctx) (σ : St) (F : Hp) (fr : Fr) (ts : List (Addr × D)) (b : Bool) (Q : Bool → Hp → Prop) : Prop :=
  ∀ (F' H' : Hp), Same F F' → FOk G σ F' H' fr ts → Q b H'
def tE (G : Ctx) (W : WX) (r : Fr → Res (Fr × SV)) : TE := fun σ H Q => ∃ F fr ts, FOk G σ F H fr ts ∧ match r fr with
  | .ok (f, s) => okE G σ F f ts s Q
  | .raise c => okX G W σ c
  | .stuck => False
def tO (G : Ctx) (W : WX) (r : Fr → Res (Fr × AV)) : TE := fun σ H Q => ∃ F fr ts, FOk G σ F H fr ts ∧ match r fr with
  | .ok (f, a) => okL G σ F f ts [a] (fun vs H' => ∀ v, vs = [v] → Q v H')
  | .raise c => okX G W σ c
  | .stuck => False
def tL (G : Ctx) (W : WX) (r : Fr → Res (Fr × List AV)) : TA := fun σ H Q => ∃ F fr ts, FOk G σ F H fr ts ∧ match r fr with
  | .ok (f, as) => okL G σ F f ts as Q
  | .raise c => okX G W σ c
  | .stuck => False
def tT (G : Ctx) (W : WX) (r : Fr → Res (Fr × Bool)) : TT := fun σ H Q => ∃ F fr ts, FOk G σ F H fr ts ∧ match r fr with
  | .ok (f, b) => okB G σ F f ts b Q
  | .raise c => okX G W σ c
  | .stuck => False
theorem PE.imp {X : Cx} {e : Expr} {t t' : TE} (h : PE X e t) (i : ∀ σ H Q, t' σ H Q → t σ H Q) : PE X e t' := ⟨fun pins s σ H Q I hw => h.run pins s σ H Q I (i _ _ _ hw)⟩
theorem PT.imp {X : Cx} {e : Expr} {t t' : TT} (h : PT X e t) (i : ∀ σ H Q, t' σ H Q → t σ H Q) : PT X e t' := ⟨fun pins s σ H Q I hw => h.run pins s σ H Q I (i _ _ _ hw)⟩
theorem PW.imp {X : Cx} {e : Expr} {t t' : TT} (h : PW X e t) (i : ∀ σ H Q, t' σ H Q → t σ H Q) : PW X e t' := ⟨fun wh pins s σ H Q I hw => h.run wh pins s σ H Q I (i _ _ _ hw)⟩
theorem PA.imp {X : Cx} {e : List Expr} {t t' : TA} (h : PA X e t) (i : ∀ σ H Q, t' σ H Q → t σ H Q) : PA X e t' := ⟨fun pos pins s σ H Q I hw => h.run pos pins s σ H Q I (i _ _ _ hw)⟩
theorem PS.imp {X : Cx} {e : Stmt} {t t' : TS} (h : PS X e t) (i : ∀ D σ H, t' D σ H → t D σ H) : PS X e t' := ⟨fun pins s σ H D I hw => h.run pins s σ H D I (i _ _ _ hw)⟩
theorem PSs.imp {X : Cx} {e : List Stmt} {t t' : TS} (h : PSs X e t) (i : ∀ D σ H, t' D σ H → t D σ H) : PSs X e t' := ⟨fun pins s σ H D I hw => h.run pins s σ H D I (i _ _ _ hw)⟩

/-- no star -/
def NS (e : Expr) : Prop := ∀ es env, starEach (e :: es) env = (false, eval e env) :: starEach es env
def evO (cf : CF) (io : Bool) (b : Bool) (e : E) (fr : Fr) : Res (Fr × AV) := opOf b (isVar e) fr (evE cf io e fr)
theorem evL_nil {cf : CF} {io b : Bool} {fr : Fr} : evL cf io b .nil fr = .ok (fr, []) := by rw [evL]
theorem evL_cons {cf : CF} {io b : Bool} {e : E} {es : Es} {fr : Fr} : evL cf io b (.cons e es) fr = Res.bind (evO cf io b e fr) fun (f, a) => Res.bind (evL cf io b es f) fun (g, as) => .ok (g, a :: as) := by rw [evL]; first | done | rfl
def evB (cf : CF) (io : Bool) (e : E) (fr : Fr) : Res (Fr × Bool) := Res.bind (evE cf io e fr) fun (f, s) => Res.bind (toB s) fun t => .ok (f, t)

/-- what is shown of an expression -/
structure SE (X : Cx) (G : Ctx) (W : WX) (cf : CF) (io : Bool) (e : Expr) (r : E) : Prop where
  ns : NS e
  pe : PE X e (tE G W (evE cf io r))
  pt : PT X e (tT G W (evB cf io r))
  po : PE X e (tO G W (evO cf io true r))
inductive SEs (X : Cx) (G : Ctx) (W : WX) (cf : CF) (io : Bool) : List Expr → Es → Prop
  | nil : SEs X G W cf io [] .nil
  | cons {e r es rs} : SE X G W cf io e r → SEs X G W cf io es rs → SEs X G W cf io (e :: es) (.cons r rs)

section
variable {X : Cx} {G : Ctx} {W : WX} {cf : CF} {io : Bool}
/-- a result as an operand -/
theorem tO_of {r : E} {σ : St} {H : Hp} {Q : VK} (b : Bool) (hb : b = false ∨ isVar r = none) (h : tO G W (evO cf io b r) σ H Q) : tE G W (evE cf io r) σ H Q := by
  obtain ⟨F, fr, ts, hF, h⟩ := h
  refine ⟨F, fr, ts, hF, ?_⟩
  have e : evO cf io b r fr = Res.bind (evE cf io r fr) fun (f, s) => .ok (f, AV.sv s) := by
    unfold evO
    rcases hb with rfl | hb
    · rfl
    · rw [hb]; cases b <;> rfl
  rw [e] at h
  cases q : evE cf io r fr with
  | stuck => rw [q] at h; exact h
  | raise c => rw [q] at h; exact h
  | ok p =>
    obtain ⟨f, s⟩ := p
    rw [q] at h
    intro v F' H' s1 hs
    cases s with
    | val d => exact h [v] F' H' [] s1 (.val hs.1 .nil) hs.2 v rfl
    | own d =>
      obtain ⟨a, rfl, hs⟩ := hs
      exact h [.ref a] F' H' [(a, d)] s1 (.own .nil) hs _ rfl
theorem po_of {e : Expr} {r : E} (hb : isVar r = none) (h : PE X e (tE G W (evE cf io r))) : PE X e (tO G W (evO cf io true r)) := PE.imp h fun σ H Q => tO_of true (.inr hb)
theorem pv_of {e : Expr} {r : E} (h : PE X e (tE G W (evE cf io r))) : PE X e (tO G W (evO cf io false r)) := PE.imp h fun σ H Q => tO_of false (.inl rfl)
theorem pt_of {e : Expr} {r : E} (h : PE X e (tE G W (evE cf io r))) (he : ∀ whole, isTrue e X.env whole = (do let v ← whole; standAt e.pos; holding [v] (truthy v))) : PT X e (tT G W (evB cf io r)) := by
  refine PT.imp (pt_val h he) fun σ H Q hq => ?_
  obtain ⟨F, fr, ts, hF, hq⟩ := hq
  refine ⟨F, fr, ts, hF, ?_⟩
  unfold evB at hq
  cases q : evE cf io r fr with
  | stuck => rw [q] at hq; exact hq
  | raise c => rw [q] at hq; exact hq
  | ok p =>
    obtain ⟨f, s⟩ := p
    rw [q] at hq
    intro v F' H' s1 hs
    cases s with
    | own d => simp [toB] at hq
    | val d =>
      cases d <;> simp [toB] at hq
      obtain ⟨hd, hs⟩ := hs
      cases hd
      exact ⟨_, rfl, hq F' H' s1 hs⟩
/-- a list of operands -/
theorem pa_of {b : Bool} : ∀ {es : List Expr} {rs : Es}, SEs X G W cf io es rs → PA X es (tL G W (evL cf io b rs))
  | _, _, .nil => PA.imp pa_nil fun σ H Q h => by
    obtain ⟨F, fr, ts, hF, h⟩ := h
    rw [evL_nil] at h
    exact h [] F H [] (Same.refl _) .nil hF
  | _, _, .cons (e := e) (r := r) (es := es) (rs := rs) h t => by
    have p1 : PE X e (tO G W (evO cf io b r)) := by
      cases b with
      | true => exact h.po
      | false => exact pv_of h.pe
    refine PA.imp (pa_cons p1 (pa_of (b := b) t) (h.ns _ _)) fun σ H Q hq => ?_
    obtain ⟨F, fr, ts, hF, hq⟩ := hq
    refine ⟨F, fr, ts, hF, ?_⟩
    rw [evL_cons] at hq
    cases q : evO cf io b r fr with
    | stuck => rw [q] at hq; exact hq
    | raise c => rw [q] at hq; exact hq
    | ok p =>
      obtain ⟨f, a⟩ := p
      rw [q] at hq
      intro vs F1 H1 t1 s1 a1 h1 v ev
      subst ev
      refine ⟨F1, f, t1 ++ ts, h1, ?_⟩
      simp only [Res.bind_ok] at hq
      cases q2 : evL cf io b rs f with
      | stuck => rw [q2] at hq; exact hq
      | raise c => rw [q2] at hq; exact hq
      | ok p2 =>
        obtain ⟨g, as⟩ := p2
        rw [q2] at hq
        intro ws F2 H2 t2 s2 a2 h2
        refine hq (v :: ws) F2 H2 (t1 ++ t2) (s1.trans s2) ((a1.mono s2).cons1 a2) (h2.perm ?_)
        rw [List.append_assoc]
        refine (List.perm_append_comm_assoc t1 t2 ts).trans (List.Perm.refl _)
end
end PP

namespace PP
open PySem L2

theorem io_no {G : Ctx} {io : Bool} (hio : io = false → G.io = none) {i : Nat} (h : (io && i == 0) = false) : G.io = none ∨ i ≠ 0 := by
  cases io with
  | false => exact .inl (hio rfl)
  | true => right; intro z; subst z; simp at h
section
variable {X : Cx} {G : Ctx} {W : WX} {cf : CF} {io : Bool}
theorem evE_var {i : Nat} {fr : Fr} : evE cf io (.var i) fr = rd io fr i := by rw [evE]
theorem evE_cst {d : D} {fr : Fr} : evE cf io (.cst d) fr = .ok (fr, .val d) := by rw [evE]
theorem evE_op {o : Op} {es : Es} {fr : Fr} : evE cf io (.op o es) fr = Res.bind (evL cf io true es fr) fun (f, as) => Res.bind (.ofOpt (conts f as)) fun ds => Res.bind (.ofOpt (opSem o ds)) fun s => .ok (f, s) := by rw [evE]
theorem evE_tup {es : Es} {fr : Fr} : evE cf io (.tup es) fr = Res.bind (evL cf io false es fr) fun (f, as) => Res.bind (.ofOpt (frzs as)) fun ds => if okLen ds.length then .ok (f, .val (.tuple ds)) else .stuck := by rw [evE]
theorem evE_lst {es : Es} {fr : Fr} : evE cf io (.lst es) fr = Res.bind (evL cf io false es fr) fun (f, as) => Res.bind (.ofOpt (frzs as)) fun ds => if okLen ds.length then .ok (f, own ds) else .stuck := by rw [evE]

theorem ns_name {x : Str} {p : Pos} : NS (.Name x p) := fun _ _ => rfl
/-- a name -/
theorem se_var {i : Nat} {x : Str} {pos : Pos} (hio : io = false → G.io = none) (hN : X.N[i]? = some x) (hv : Vis X.env.scope x) (hd : (x == ("__debug__" : Str)) = false) (hcd : (x == ("__classdict__" : Str)) = false) : SE X G W cf io (.Name x pos) (.var i) := by
  have pv : PE X (.Name x pos) (tVar i) := pe_var hN hv hd hcd
  have pe : PE X (.Name x pos) (tE G W (evE cf io (.var i))) := by
    refine PE.imp pv fun σ H Q h => ?_
    obtain ⟨F, fr, ts, hF, h⟩ := h
    rw [evE_var] at h
    unfold rd at h
    cases q : getS fr i with
    | none => rw [q] at h; exact h.elim
    | some s =>
      rw [q] at h
      cases s with
      | val d =>
        obtain ⟨v, h1, h2⟩ := hF.val_at q
        exact ⟨v, h1, h v F H (Same.refl _) ⟨h2, hF⟩⟩
      | own d =>
        cases d with
        | list xs =>
          simp only at h
          by_cases hz : (io && i == 0) = true
          · rw [if_pos hz] at h; exact h.elim
          · rw [if_neg hz] at h
            obtain ⟨a, F', ha, s1, hF', hd'⟩ := hF.freeze q (io_no hio (by simpa using hz))
            exact ⟨_, ha, h _ F' H s1 ⟨hd', hF'⟩⟩
        | _ => exact h.elim
  refine ⟨ns_name, pe, pt_of pe fun _ => rfl, PE.imp pv fun σ H Q h => ?_⟩
  obtain ⟨F, fr, ts, hF, h⟩ := h
  have e : evO cf io true (.var i) fr = (match getS fr i with | some _ => Res.ok (fr, AV.bor i) | none => .stuck) := rfl
  rw [e] at h
  cases q : getS fr i with
  | none => rw [q] at h; exact h.elim
  | some s =>
    rw [q] at h
    obtain ⟨v, h1, _⟩ := hF.slot i s q
    exact ⟨v, h1, h [v] F H [] (Same.refl _) (.bor h1 .nil) hF v rfl⟩
/-- a constant that is written, or stands in the written part -/
theorem pe_const {e : Expr} {d : D} {v : V} (hp : PE X e (tC v)) (hd : ∀ F, Dp G.K F v d) : PE X e (tE G W (evE cf io (.cst d))) := by
  refine PE.imp hp fun σ H Q h => ?_
  obtain ⟨F, fr, ts, hF, h⟩ := h
  rw [evE_cst] at h
  exact h v F H (Same.refl _) ⟨hd F, hF⟩
theorem se_of {e : Expr} {r : E} (ns : NS e) (hv : isVar r = none) (he : ∀ whole, isTrue e X.env whole = (do let v ← whole; standAt e.pos; holding [v] (truthy v))) (pe : PE X e (tE G W (evE cf io r))) : SE X G W cf io e r :=
  ⟨ns, pe, pt_of pe he, po_of hv pe⟩
theorem se_int {i : Int} {j : Nat} {pos : Pos} : SE X G W cf io (.Constant (.int i) j pos) (.cst (.int i)) := se_of (fun _ _ => rfl) rfl (fun _ => rfl) (pe_const pe_int fun _ => .int i)
theorem se_bool {b : Bool} {j : Nat} {pos : Pos} : SE X G W cf io (.Constant (.bool b) j pos) (.cst (.bool b)) := se_of (fun _ _ => rfl) rfl (fun _ => rfl) (pe_const pe_bl fun _ => .bl b)
theorem se_none {j : Nat} {pos : Pos} : SE X G W cf io (.Constant .none j pos) (.cst .none) := se_of (fun _ _ => rfl) rfl (fun _ => rfl) (pe_const pe_non fun _ => .non)
theorem se_str {x : Str} {j : Nat} {pos : Pos} : SE X G W cf io (.Constant (.str x) j pos) (.cst (.str x)) := se_of (fun _ _ => rfl) rfl (fun _ => rfl) (pe_const pe_str fun _ => .str x)
theorem se_glob {x : Str} {v : V} {u : Value} {d : D} {pos : Pos} (hg : Gl X x) (hm : X.mg x = some u) (r : RelV v u) (hd : ∀ F, Dp G.K F v d) (hdb : (x == ("__debug__" : Str)) = false) : SE X G W cf io (.Name x pos) (.cst d) :=
  se_of ns_name rfl (fun _ => rfl) (pe_const (pe_glob hg hm r hdb) hd)

/-! ### frozen lists of operands -/
theorem frzs_spec {σ : St} {G : Ctx} {H : Hp} {fr : Fr} {ts : List (Addr × D)} {as : List AV} : ∀ {F : Hp} {ds : List D} {vs : List V} {ts' : List (Addr × D)}, frzs as = some ds → AvsOk G.K F σ vs as ts' → FOk G σ F H fr (ts' ++ ts) →
    ∃ F', Same F F' ∧ FOk G σ F' H fr ts ∧ DpAll G.K F' vs ds := by
  induction as with
  | nil =>
    intro F ds vs ts' e a h
    cases a
    simp [frzs] at e; subst e
    exact ⟨F, Same.refl _, h, .nil⟩
  | cons x as ih =>
    intro F ds vs ts' e a h
    cases a with
    | val hd t =>
      simp only [frzs, frz, Option.bind_some, Option.map_eq_some_iff] at e
      obtain ⟨es, e1, rfl⟩ := e
      obtain ⟨F', s1, h1, h2⟩ := ih e1 t h
      exact ⟨F', s1, h1, .cons (L2.Dp.mono s1 hd) h2⟩
    | @own a vs d as t0 t =>
      cases d with
      | list xs =>
        simp only [frzs, frz, Option.bind_some, Option.map_eq_some_iff] at e
        obtain ⟨es, e1, rfl⟩ := e
        obtain ⟨F1, s1, h1, h2⟩ := (show FOk G σ F H fr ((_, PyData.list xs) :: (t0 ++ ts)) from h).freezeT
        obtain ⟨F', s2, h3, h4⟩ := ih e1 (t.mono s1) h1
        exact ⟨F', s1.trans s2, h3, .cons (L2.Dp.mono s2 h2) h4⟩
      | _ => simp [frzs, frz] at e
    | bor _ _ => simp [frzs] at e
theorem okLen_le {n : Nat} (h : okLen n = true) : n ≤ sizeLine := by
  have : n ≤ 16777216 := of_decide_eq_true h
  rw [sizeLine_eq]; exact this

theorem ns_tup {es : List Expr} {k : Nat} {p : Pos} : NS (.Tuple es k p) := fun _ _ => rfl
theorem se_tup {es : List Expr} {rs : Es} {k : Nat} {pos : Pos} (h : SEs X G W cf io es rs) : SE X G W cf io (.Tuple es k pos) (.tup rs) := by
  refine se_of ns_tup rfl (fun _ => rfl) (PE.imp (pe_tup (pa_of (b := false) h)) fun σ H Q hq => ?_)
  obtain ⟨F, fr, ts, hF, hq⟩ := hq
  refine ⟨F, fr, ts, hF, ?_⟩
  rw [evE_tup] at hq
  cases q : evL cf io false rs fr with
  | stuck => rw [q] at hq; exact hq
  | raise c => rw [q] at hq; exact hq
  | ok p =>
    obtain ⟨f, as⟩ := p
    rw [q] at hq
    simp only [Res.bind_ok] at hq
    cases q2 : frzs as with
    | none => rw [q2] at hq; exact hq.elim
    | some ds =>
      rw [q2] at hq
      simp only [Res.bind_ok, Res.ofOpt_some] at hq
      intro vs F1 H1 t1 s1 a1 h1
      obtain ⟨F2, s2, h2, d2⟩ := frzs_spec q2 a1 h1
      by_cases hz : okLen ds.length = true
      · rw [if_pos hz] at hq
        refine ⟨by rw [d2.length]; exact okLen_le hz, fun p np => ?_⟩
        obtain ⟨s3, h3, d3⟩ := h2.newT np d2
        exact hq _ _ _ ((s1.trans s2).trans s3) ⟨d3, h3⟩
      · rw [if_neg hz] at hq; exact hq.elim
theorem se_lst {es : List Expr} {rs : Es} {pos : Pos} (h : SEs X G W cf io es rs) : SE X G W cf io (.List es pos) (.lst rs) := by
  refine se_of (fun _ _ => rfl) rfl (fun _ => rfl) (PE.imp (pe_lst (pa_of (b := false) h)) fun σ H Q hq => ?_)
  obtain ⟨F, fr, ts, hF, hq⟩ := hq
  refine ⟨F, fr, ts, hF, ?_⟩
  rw [evE_lst] at hq
  cases q : evL cf io false rs fr with
  | stuck => rw [q] at hq; exact hq
  | raise c => rw [q] at hq; exact hq
  | ok p =>
    obtain ⟨f, as⟩ := p
    rw [q] at hq
    simp only [Res.bind_ok] at hq
    cases q2 : frzs as with
    | none => rw [q2] at hq; exact hq.elim
    | some ds =>
      rw [q2] at hq
      simp only [Res.bind_ok, Res.ofOpt_some] at hq
      intro vs F1 H1 t1 s1 a1 h1
      obtain ⟨F2, s2, h2, d2⟩ := frzs_spec q2 a1 h1
      by_cases hz : okLen ds.length = true
      · rw [if_pos hz] at hq
        refine ⟨by rw [d2.length]; exact okLen_le hz, fun p np => ?_⟩
        exact hq _ F2 _ (s1.trans s2) ⟨p, rfl, h2.newL np d2⟩
      · rw [if_neg hz] at hq; exact hq.elim

/-! ### operators over what they read -/
/-- the reading of an operator by values -/
def rOp (G : Ctx) (o : Op) : List V → Hp → VK → Prop := fun xs H Q => ∃ σ F fr ts ds s, FOk G σ F H fr ts ∧ RdAll G F H xs ds ∧ opSem o ds = some s ∧ okE G σ F fr ts s Q
theorem okE.weak {G : Ctx} {σ : St} {F F1 : Hp} {fr : Fr} {ts : List (Addr × D)} {s : SV} {Q : VK} (h : okE G σ F fr ts s Q) (e : Same F F1) : okE G σ F1 fr ts s Q := fun v F' H' s1 hs => h v F' H' (e.trans s1) hs
/-- behind the operands -/
theorem rOp_of {o : Op} {rs : Es} {σ : St} {H : Hp} {Q : VK} (h : tE G W (evE cf io (.op o rs)) σ H Q) : tL G W (evL cf io true rs) σ H fun vs H1 => rOp G o vs H1 Q := by
  obtain ⟨F, fr, ts, hF, h⟩ := h
  refine ⟨F, fr, ts, hF, ?_⟩
  rw [evE_op] at h
  cases q : evL cf io true rs fr with
  | stuck => rw [q] at h; exact h
  | raise c => rw [q] at h; exact h
  | ok p =>
    obtain ⟨f, as⟩ := p
    rw [q] at h
    simp only [Res.bind_ok] at h
    cases q2 : conts f as with
    | none => rw [q2] at h; exact h.elim
    | some ds =>
      rw [q2] at h
      simp only [Res.bind_ok, Res.ofOpt_some] at h
      cases q3 : opSem o ds with
      | none => rw [q3] at h; exact h.elim
      | some s =>
        rw [q3] at h
        intro vs F1 H1 t1 s1 a1 h1
        exact ⟨σ, F1, f, ts, ds, s, h1.dropAll, rd_of a1 (fun p hp => h1.tmp p (List.mem_append_left _ hp)) h1.dropAll q2, q3, okE.weak h s1⟩
/-- two operands, one behind the other -/
theorem tL2 {r1 r2 : E} {σ : St} {H : Hp} {R : V → V → Hp → Prop} (h : tL G W (evL cf io true (.cons r1 (.cons r2 .nil))) σ H fun vs H1 => ∀ x y, vs = [x, y] → R x y H1) :
    tO G W (evO cf io true r1) σ H fun x H1 => tO G W (evO cf io true r2) σ H1 fun y H2 => R x y H2 := by
  obtain ⟨F, fr, ts, hF, hq⟩ := h
  refine ⟨F, fr, ts, hF, ?_⟩
  rw [evL_cons] at hq
  cases q : evO cf io true r1 fr with
  | stuck => rw [q] at hq; exact hq
  | raise c => rw [q] at hq; exact hq
  | ok p =>
    obtain ⟨f, a⟩ := p
    rw [q] at hq
    intro vs F1 H1 t1 s1 a1 h1 x ex
    subst ex
    refine ⟨F1, f, t1 ++ ts, h1, ?_⟩
    simp only [Res.bind_ok, evL_cons] at hq
    cases q2 : evO cf io true r2 f with
    | stuck => rw [q2] at hq; exact hq
    | raise c => rw [q2] at hq; exact hq
    | ok p2 =>
      obtain ⟨g, a2⟩ := p2
      rw [q2] at hq
      simp only [Res.bind_ok, evL_nil] at hq
      intro ws F2 H2 t2 s2 b2 h2 y ey
      subst ey
      refine hq [x, y] F2 H2 (t1 ++ t2) (s1.trans s2) ((a1.mono s2).cons1 b2) (h2.perm ?_) x y rfl
      rw [List.append_assoc]
      exact (List.perm_append_comm_assoc t1 t2 ts).trans (List.Perm.refl _)
/-- a binary operator -/
theorem pe_op2 {f : Value → Value → Sem Value} {o : Op} {a b e : Expr} {r1 r2 : E} (h1 : SE X G W cf io a r1) (h2 : SE X G W cf io b r2)
    (rule : PE X e (tOp (fun x y H Q => rOp G o [x, y] H Q) (tO G W (evO cf io true r1)) (tO G W (evO cf io true r2)))) : PE X e (tE G W (evE cf io (.op o (.cons r1 (.cons r2 .nil))))) := by
  refine PE.imp rule fun σ H Q h => ?_
  exact tL2 (R := fun x y H1 => rOp G o [x, y] H1 Q) (by
    obtain ⟨F, fr, ts, hF, h⟩ := rOp_of h
    refine ⟨F, fr, ts, hF, ?_⟩
    cases q : evL cf io true (.cons r1 (.cons r2 .nil)) fr with
    | stuck => rw [q] at h; exact h
    | raise c => rw [q] at h; exact h
    | ok p =>
      rw [q] at h
      intro vs F1 H1 t1 s1 a1 g1 x y e
      subst e
      exact h _ F1 H1 t1 s1 a1 g1)
end
end PP

namespace PP
open PySem PySem.Spec PyProof.Rows
open L2

/-! ### depth -/
mutual
theorem shal_depth : ∀ (n : Nat) (d : D), shal n d = true → d.depth ≤ n ∧ d.plain = true
  | _, .none, _ => ⟨by simp [PyData.depth], by simp [PyData.plain]⟩
  | _, .bool _, _ => ⟨by simp [PyData.depth], by simp [PyData.plain]⟩
  | _, .int _, _ => ⟨by simp [PyData.depth], by simp [PyData.plain]⟩
  | _, .str _, _ => ⟨by simp [PyData.depth], by simp [PyData.plain]⟩
  | 0, .list xs, h => by simp [shal] at h
  | 0, .tuple xs, h => by simp [shal] at h
  | n + 1, .list xs, h => by
    have h' : xs.all (shal n) = true := by rw [shal] at h; exact h
    have := shal_depths n xs h'
    exact ⟨by rw [PyData.depth]; omega, by rw [PyData.plain]; exact this.2⟩
  | n + 1, .tuple xs, h => by
    have h' : xs.all (shal n) = true := by rw [shal] at h; exact h
    have := shal_depths n xs h'
    exact ⟨by rw [PyData.depth]; omega, by rw [PyData.plain]; exact this.2⟩
  | 0, .dict _, h => by simp [shal] at h
  | n + 1, .dict _, h => by simp [shal] at h
theorem shal_depths : ∀ (n : Nat) (ds : List D), ds.all (shal n) = true → PyData.depthAll ds ≤ n ∧ PyData.plainAll ds = true
  | _, [], _ => ⟨by simp [PyData.depthAll], by simp [PyData.plainAll]⟩
  | n, d :: ds, h => by
    rw [List.all_cons, Bool.and_eq_true] at h
    have h1 := shal_depth n d h.1
    have h2 := shal_depths n ds h.2
    exact ⟨by rw [PyData.depthAll]; omega, by rw [PyData.plainAll, h1.2, h2.2]; rfl⟩
end

section
variable {G : Ctx} {F H : Hp} {σ : L2.St} {fr : Fr} {ts : List (Addr × D)}
theorem rd_int {v : V} {i : Int} (h : RdOk G F H v (.int i)) : v = .int i := by
  rcases h with h | ⟨_, _, _, _, e, _⟩
  · cases h; rfl
  · cases e
theorem rd_bool {v : V} {i : Bool} (h : RdOk G F H v (.bool i)) : v = .bl i := by
  rcases h with h | ⟨_, _, _, _, e, _⟩
  · cases h; rfl
  · cases e
theorem rd_str {v : V} {x : Str} (h : RdOk G F H v (.str x)) : v = .str x := by
  rcases h with h | ⟨_, _, _, _, e, _⟩
  · cases h; rfl
  · cases e
theorem rd_none {v : V} (h : RdOk G F H v .none) : v = .non := by
  rcases h with h | ⟨_, _, _, _, e, _⟩
  · cases h; rfl
  · cases e
theorem rd_list {v : V} {ds : List D} (s : Same F H) (h : RdOk G F H v (.list ds)) : ∃ a vs, v = .ref a ∧ SqL G.K H a vs ∧ DpAll G.K F vs ds := by
  rcases h with h | ⟨a, vs, es, rfl, e, h1, h2⟩
  · cases h with
    | lst h1 h2 => exact ⟨_, _, rfl, s.seq h1, h2⟩
  · cases e; exact ⟨a, vs, rfl, SqL.of h1, h2⟩
theorem rd_tup {v : V} {ds : List D} (s : Same F H) (h : RdOk G F H v (.tuple ds)) : ∃ a vs, v = .ref a ∧ SqT G.K H a vs ∧ DpAll G.K F vs ds ∧ Dp G.K F v (.tuple ds) := by
  rcases h with h | ⟨a, vs, es, rfl, e, h1, h2⟩
  · cases h with
    | tup h1 h2 => exact ⟨_, _, rfl, s.seqT h1, h2, .tup h1 h2⟩
  · cases e
theorem RdAll.one {vs : List V} {d : D} (h : RdAll G F H vs [d]) : ∃ v, vs = [v] ∧ RdOk G F H v d := by
  cases h with
  | cons h t => cases t; exact ⟨_, rfl, h⟩
theorem RdAll.two {vs : List V} {d e : D} (h : RdAll G F H vs [d, e]) : ∃ v w, vs = [v, w] ∧ RdOk G F H v d ∧ RdOk G F H w e := by
  cases h with
  | cons h t =>
    obtain ⟨w, rfl, h2⟩ := t.one
    exact ⟨_, _, rfl, h, h2⟩
theorem RdAll.three {vs : List V} {d e f : D} (h : RdAll G F H vs [d, e, f]) : ∃ v w x, vs = [v, w, x] ∧ RdOk G F H v d ∧ RdOk G F H w e ∧ RdOk G F H x f := by
  cases h with
  | cons h t =>
    obtain ⟨w, x, rfl, h2, h3⟩ := t.two
    exact ⟨_, _, _, rfl, h, h2, h3⟩
theorem RdAll.len : ∀ {vs : List V} {ds : List D}, RdAll G F H vs ds → vs.length = ds.length
  | _, _, .nil => rfl
  | _, _, .cons _ t => by simp [RdAll.len t]
/-- giving back -/
theorem okE.giveI {Q : VK} {i : Int} (h : okE G σ F fr ts (vI i) Q) (hF : FOk G σ F H fr ts) : Q (.int i) H := h _ F H (Same.refl _) ⟨.int i, hF⟩
theorem okE.giveB {Q : VK} {b : Bool} (h : okE G σ F fr ts (vB b) Q) (hF : FOk G σ F H fr ts) : Q (.bl b) H := h _ F H (Same.refl _) ⟨.bl b, hF⟩
theorem okE.giveS {Q : VK} {x : Str} (h : okE G σ F fr ts (.val (.str x)) Q) (hF : FOk G σ F H fr ts) : Q (.str x) H := h _ F H (Same.refl _) ⟨.str x, hF⟩
theorem okE.giveV {Q : VK} {v : V} {d : D} (h : okE G σ F fr ts (.val d) Q) (hF : FOk G σ F H fr ts) (hd : Dp G.K F v d) : Q v H := h _ F H (Same.refl _) ⟨hd, hF⟩
theorem okE.giveL {Q : VK} {p : Addr} {vs : List V} {ds : List D} (h : okE G σ F fr ts (own ds) Q) (hF : FOk G σ F H fr ts) (n : H p = none) (hd : DpAll G.K F vs ds) : Q (.ref p) (upd H p (.lst vs)) :=
  h _ F _ (Same.refl _) ⟨p, rfl, hF.newL n hd⟩
theorem okE.giveT {Q : VK} {p : Addr} {vs : List V} {ds : List D} (h : okE G σ F fr ts (.val (.tuple ds)) Q) (hF : FOk G σ F H fr ts) (n : H p = none) (hd : DpAll G.K F vs ds) : Q (.ref p) (upd H p (.tup vs)) := by
  obtain ⟨s1, h1, h2⟩ := hF.newT n hd
  exact h _ _ _ s1 ⟨h2, h1⟩
end

section
variable {X : Cx} {G : Ctx} {pins : List (Addr × Obj)} {σ σ' : L2.St} {F H : Hp} {s : Shared} {fr : Fr} {ts : List (Addr × D)}
theorem RdOk.reads (I : Inv X pins σ' H s) (hK : G.K = X.K) (hs : Same F H) {v : V} {d : D} {u : Value} (h : RdOk G F H v d) (r : RelV v u) : ∃ as, Reads s.heap u d as :=
  Dp.reads I d v u (hK ▸ h.dp hs) r
theorem line_size {n : Nat} (h : n ≤ line) : n ≤ sizeLine := by rw [sizeLine_eq]; exact h
end

/-! ### + -/
section
variable {X : Cx} {G : Ctx}
theorem cat_tup0 {prog : Program} {w : World} {A : Around} {E : Value → Shared → Prop} {s : Shared} {t b : Addr} {ws : List Value} {Q : Value → Shared → Prop} (ht : IsTup s.heap t #[]) (hb : IsTup s.heap b ws.toArray)
    (h : Q (.ref b) s) : wpAny (model prog w) A (binaryOp .Add (.ref t) (.ref b)) Q E s := by
  obtain ⟨⟨cls, dd, data, sl⟩, ho, hc, n, hd⟩ := id ht
  obtain ⟨⟨cls2, dd2, data2, sl2⟩, ho2, hc2, n2, hd2⟩ := id hb
  simp only at hc hd hc2 hd2
  subst hc hd hc2 hd2
  exact concat_meets ⟨_, ho, rfl⟩ ⟨_, ho2, rfl⟩ noFill_tuple_add seq_tuple_add PySem.F.slot_tuple_add PySem.F.entry_tuple_add (PySem.F.args_tuple_add_2 _ _)
      (tuple_addW0 t b #[] ws.toArray n n2 dd dd2 sl sl2 (by simp)) ⟨ho, ho2, h⟩
theorem cat_lst {prog : Program} {w : World} {A : Around} {E : Value → Shared → Prop} {s : Shared} {l b : Addr} {vs ws : List Value} {Q : Value → Shared → Prop} (hl : s.heap.IsList l vs.toArray) (hb : s.heap.IsList b ws.toArray)
    (h : Q (.ref s.heap.objs.size) { s with heap := s.heap.push { cls := .type "list", data := .seq (vs ++ ws).toArray } }) (hsz : vs.length + ws.length ≤ sizeLine) :
    wpAny (model prog w) A (binaryOp .Add (.ref l) (.ref b)) Q E s := by
  obtain ⟨⟨cls, dd, data, sl⟩, ho, hc, n, hd⟩ := id hl
  obtain ⟨⟨cls2, dd2, data2, sl2⟩, ho2, hc2, n2, hd2⟩ := id hb
  simp only at hc hd hc2 hd2
  subst hc hd hc2 hd2
  have e : vs.toArray ++ ws.toArray = (vs ++ ws).toArray := by simp
  refine concat_meets ⟨_, ho, rfl⟩ ⟨_, ho2, rfl⟩ noFill_list_add seq_list_add PySem.F.slot_list_add PySem.F.entry_list_add (PySem.F.args_list_add_2 _ _) (list_addW l b vs.toArray ws.toArray n n2 dd dd2 sl sl2 (by simpa using hsz)) ⟨ho, ho2, ?_⟩
  rw [e]
  exact h
theorem addS_inv {ds : List D} {sv : SV} (h : addS ds = some sv) : (∃ i j, ds = [.int i, .int j] ∧ sv = vI (i + j)) ∨ (∃ xs ys, ds = [.tuple xs, .tuple ys] ∧ xs.length + ys.length ≤ sizeLine ∧ sv = .val (.tuple (xs ++ ys))) ∨
    (∃ xs ys, ds = [.list xs, .list ys] ∧ xs.length + ys.length ≤ sizeLine ∧ sv = own (xs ++ ys)) ∨ ∃ x y, ds = [.str x, .str y] ∧ x.length + y.length ≤ sizeLine ∧ sv = .val (.str (x ++ y)) := by
  unfold addS at h
  split at h
  · cases h; exact .inl ⟨_, _, rfl, rfl⟩
  · split at h
    · rename_i q; cases h; exact .inr (.inl ⟨_, _, rfl, okLen_le q, rfl⟩)
    · cases h
  · split at h
    · rename_i q; cases h; exact .inr (.inr (.inl ⟨_, _, rfl, okLen_le q, rfl⟩))
    · cases h
  · split at h
    · rename_i q; cases h; exact .inr (.inr (.inr ⟨_, _, rfl, okLen_le q, rfl⟩))
    · cases h
  · cases h
theorem op_add_ok (hK : G.K = X.K) : OpR X (binaryOp .Add) (fun x y H Q => rOp G .add [x, y] H Q) := by
  intro pins s σ H x y v u Q I rx ry h
  obtain ⟨σ', F, fr, ts, ds, sv, hF, hr, ho, hq⟩ := h
  rcases addS_inv ho with ⟨i, j, rfl, rfl⟩ | ⟨xs, ys, rfl, hz, rfl⟩ | ⟨xs, ys, rfl, hz, rfl⟩ | ⟨a, b, rfl, hz, rfl⟩
  · obtain ⟨_, _, he, h1, h2⟩ := hr.two
    cases he
    cases rd_int h1
    cases rd_int h2
    exact op_add pins s σ H _ _ v u Q I rx ry ⟨_, _, rfl, rfl, hq.giveI hF⟩
  · obtain ⟨_, _, he, h1, h2⟩ := hr.two
    cases he
    obtain ⟨a, vs, rfl, q1, d1, e1⟩ := rd_tup hF.sub h1
    obtain ⟨b, ws, rfl, q2, d2, e2⟩ := rd_tup hF.sub h2
    rw [hK] at q1 q2
    by_cases hx : vs = []
    · subst hx
      cases d1
      cases rx
      cases ry
      obtain ⟨its, r1, p1, _⟩ := I.tuple q1
      obtain ⟨its2, r2, p2, _⟩ := I.tuple q2
      cases r1
      exact cat_tup0 p1 p2 ⟨.ref b, H, I, rfl, hq.giveV hF e2⟩
    · refine op_catT pins s σ H _ _ v u Q I rx ry ⟨a, b, vs, ws, rfl, rfl, q1, q2, hx, by rw [d1.length, d2.length]; exact hz, fun e => ?_, fun e p np => hq.giveT hF np (d1.append d2)⟩
      subst e
      cases d2
      rw [List.append_nil] at hq
      exact hq.giveV hF e1
  · obtain ⟨_, _, he, h1, h2⟩ := hr.two
    cases he
    obtain ⟨a, vs, rfl, q1, d1⟩ := rd_list hF.sub h1
    obtain ⟨b, ws, rfl, q2, d2⟩ := rd_list hF.sub h2
    rw [hK] at q1 q2
    cases rx
    cases ry
    obtain ⟨its, r1, p1, _⟩ := I.list q1
    obtain ⟨its2, r2, p2, _⟩ := I.list q2
    have hz' : its.length + its2.length ≤ sizeLine := by rw [← r1.length, ← r2.length, d1.length, d2.length]; exact hz
    refine cat_lst p1.isList p2.isList ?_ hz'
    exact ⟨.ref _, _, I.lnew (t' := s.toks) (r1.append r2) (by rw [List.length_append, r1.length, r2.length]; exact hz'), rfl, hq.giveL hF I.fresh (d1.append d2)⟩
  · obtain ⟨_, _, he, h1, h2⟩ := hr.two
    cases he
    cases rd_str h1
    cases rd_str h2
    exact op_add_str pins s σ H _ _ v u Q I rx ry ⟨_, _, rfl, rfl, hz, hq.giveS hF⟩
end
end PP

namespace PP
open PySem PySem.Spec PyProof.Rows
open L2

/-! ### inversions -/
theorem subS_inv {ds : List D} {sv : SV} (h : subS ds = some sv) : ∃ i j, ds = [.int i, .int j] ∧ sv = vI (i - j) := by
  unfold subS at h; split at h <;> first | (cases h; exact ⟨_, _, rfl, rfl⟩) | cases h
theorem mulS_inv {ds : List D} {sv : SV} (h : mulS ds = some sv) : (∃ i j, ds = [.int i, .int j] ∧ CMul i j ∧ sv = vI (i * j)) ∨
    (∃ xs k, ds = [.tuple xs, .int k] ∧ xs ≠ [] ∧ 2 ≤ k ∧ k ≤ 1000 ∧ xs.length ≤ 1000 ∧ sv = .val (.tuple (List.replicate k.toNat xs).flatten)) ∨
    (∃ xs k, ds = [.list xs, .int k] ∧ -(2 ^ 63) ≤ k ∧ k < 2 ^ 63 ∧ xs.length * k.toNat ≤ sizeLine ∧ sv = own (List.replicate k.toNat xs).flatten) := by
  unfold mulS at h; split at h
  · split at h
    · rename_i q; cases h; exact .inl ⟨_, _, rfl, by unfold mulOk at q; unfold CMul; exact of_decide_eq_true q, rfl⟩
    · cases h
  · split at h
    · rename_i xs k q; cases h
      refine .inr (.inl ⟨_, _, rfl, ?_, q.2.1, q.2.2.1, q.2.2.2, rfl⟩)
      rintro rfl; simp at q
    · cases h
  · simp only [Option.map_eq_some_iff, repP] at h
    obtain ⟨r, h1, rfl⟩ := h
    split at h1
    · rename_i q; cases h1; exact .inr (.inr ⟨_, _, rfl, q.1, q.2.1, by rw [sizeLine_eq]; exact q.2.2, rfl⟩)
    · cases h1
  · cases h
theorem fdivS_inv {ds : List D} {sv : SV} (h : fdivS ds = some sv) : ∃ i j, ds = [.int i, .int j] ∧ CDiv i j ∧ sv = vI (i / j) := by
  unfold fdivS at h; split at h
  · split at h
    · rename_i q; cases h; exact ⟨_, _, rfl, q, rfl⟩
    · cases h
  · cases h
theorem modS_inv {ds : List D} {sv : SV} (h : modS ds = some sv) : ∃ i j, ds = [.int i, .int j] ∧ 0 < j ∧ sv = vI (i % j) := by
  unfold modS at h; split at h
  · split at h
    · rename_i q; cases h; exact ⟨_, _, rfl, q, rfl⟩
    · cases h
  · cases h
theorem powS_inv {ds : List D} {sv : SV} (h : powS ds = some sv) : ∃ i j, ds = [.int i, .int j] ∧ CPow i j ∧ sv = vI (i ^ j.toNat) := by
  unfold powS at h; split at h
  · split at h
    · rename_i q; cases h; exact ⟨_, _, rfl, ⟨q.1, Int.le_trans q.2.1 (by decide), q.2.2⟩, rfl⟩
    · cases h
  · cases h
theorem negS_inv {ds : List D} {sv : SV} (h : negS ds = some sv) : ∃ i, ds = [.int i] ∧ sv = vI (-i) := by
  unfold negS at h; split at h <;> first | (cases h; exact ⟨_, rfl, rfl⟩) | cases h

section
variable {X : Cx} {G : Ctx}
theorem op_sub_ok : OpR X (binaryOp .Sub) (fun x y H Q => rOp G .sub [x, y] H Q) := by
  intro pins s σ H x y v u Q I rx ry h
  obtain ⟨σ', F, fr, ts, ds, sv, hF, hr, ho, hq⟩ := h
  obtain ⟨i, j, rfl, rfl⟩ := subS_inv ho
  obtain ⟨_, _, he, h1, h2⟩ := hr.two
  cases he
  cases rd_int h1
  cases rd_int h2
  exact op_sub pins s σ H _ _ v u Q I rx ry ⟨_, _, rfl, rfl, hq.giveI hF⟩
theorem op_fdiv_ok : OpR X (binaryOp .FloorDiv) (fun x y H Q => rOp G .fdiv [x, y] H Q) := by
  intro pins s σ H x y v u Q I rx ry h
  obtain ⟨σ', F, fr, ts, ds, sv, hF, hr, ho, hq⟩ := h
  obtain ⟨i, j, rfl, c, rfl⟩ := fdivS_inv ho
  obtain ⟨_, _, he, h1, h2⟩ := hr.two
  cases he
  cases rd_int h1
  cases rd_int h2
  exact op_fdiv pins s σ H _ _ v u Q I rx ry ⟨_, _, rfl, rfl, c, hq.giveI hF⟩
theorem op_mod_ok : OpR X (binaryOp .Mod) (fun x y H Q => rOp G .mod [x, y] H Q) := by
  intro pins s σ H x y v u Q I rx ry h
  obtain ⟨σ', F, fr, ts, ds, sv, hF, hr, ho, hq⟩ := h
  obtain ⟨i, j, rfl, c, rfl⟩ := modS_inv ho
  obtain ⟨_, _, he, h1, h2⟩ := hr.two
  cases he
  cases rd_int h1
  cases rd_int h2
  exact op_mod pins s σ H _ _ v u Q I rx ry ⟨_, _, rfl, rfl, c, hq.giveI hF⟩
theorem op_pow_ok : OpR X (binaryOp .Pow) (fun x y H Q => rOp G .pow [x, y] H Q) := by
  intro pins s σ H x y v u Q I rx ry h
  obtain ⟨σ', F, fr, ts, ds, sv, hF, hr, ho, hq⟩ := h
  obtain ⟨i, j, rfl, c, rfl⟩ := powS_inv ho
  obtain ⟨_, _, he, h1, h2⟩ := hr.two
  cases he
  cases rd_int h1
  cases rd_int h2
  exact op_pow pins s σ H _ _ v u Q I rx ry ⟨_, _, rfl, rfl, c, hq.giveI hF⟩
theorem un_neg_ok : UnR X (unaryOp .USub) (fun x H Q => rOp G .neg [x] H Q) := by
  intro pins s σ H x v Q I rx h
  obtain ⟨σ', F, fr, ts, ds, sv, hF, hr, ho, hq⟩ := h
  obtain ⟨i, rfl, rfl⟩ := negS_inv ho
  obtain ⟨_, he, h1⟩ := hr.one
  cases he
  cases rd_int h1
  exact un_neg pins s σ H _ v Q I rx ⟨_, rfl, hq.giveI hF⟩

/-! ### list * int -/
theorem int_rmul_list (a : Int) (t : Tok) (l : Addr) (items : Array Value) (n : Nat) (dd : Option Addr) (sl : Array (Option Value)) :
    Meets (Builtin.«int.__rmul__» ⟨[.int a t, .ref l], []⟩) (fun _ R s => s.heap.get? l = some { cls := .type "list", dict := dd, data := .seq items n, slots := sl } ∧ R (.ok (.ret Value.notImplemented)) s) :=
  .of_wp fun prog w A R s h => by obtain ⟨hp, g, d, tk, os⟩ := s; obtain ⟨hl, h⟩ := h; wp_walk using wpAny_loadPart' hl; exact ⟨_, rfl, h⟩
theorem list_mulW (l : Addr) (items : Array Value) (n : Nat) (dd : Option Addr) (sl : Array (Option Value)) (x : Int) (u : Tok) (hc0 : ¬(!Builtin.List.listFitsIndex x) = true) (hc1 : ¬items.size * x.toNat > (2 ^ 63 - 1) / 8) (hc2 : ¬Builtin.List.listTooLong (items.size * x.toNat) = true)
    (hsz : (List.foldl (fun x1 x2 => x1 ++ x2) #[] (List.replicate (if items.isEmpty = true then 0 else x.toNat) items)).size ≤ sizeLine) :
    Meets (Builtin.«list.__mul__» ⟨[.ref l, .int x u], []⟩) (fun _ R s => s.heap.get? l = some { cls := .type "list", dict := dd, data := .seq items n, slots := sl } ∧ R (.ok (.ret (Value.ref s.heap.objs.size))) { s with heap := s.heap.push { cls := Value.type "list", data := Data.seq (List.foldl (fun x1 x2 => x1 ++ x2) #[] (List.replicate (if items.isEmpty = true then 0 else x.toNat) items)) }, toks := s.toks }) :=
  .of_wp fun prog w A R s h => by
    obtain ⟨hp, g, d, tk, os⟩ := s; obtain ⟨hl, h⟩ := h
    wp_walk using wpAny_loadPart' hl; refine wpAny_ite_false (decide_eq_false (Nat.not_lt.mpr hsz)) ?_; wp_walk using wpAny_loadPart' hl; exact ⟨_, rfl, h⟩
theorem op_mul_ok (hK : G.K = X.K) : OpR X (binaryOp .Mult) (fun x y H Q => rOp G .mul [x, y] H Q) := by
  intro pins s σ H x y v u Q I rx ry h
  obtain ⟨σ', F, fr, ts, ds, sv, hF, hr, ho, hq⟩ := h
  rcases mulS_inv ho with ⟨i, j, rfl, c, rfl⟩ | ⟨xs, k, rfl, hn, k1, k2, hz, rfl⟩ | ⟨xs, k, rfl, k1, k2, hz, rfl⟩
  · obtain ⟨_, _, he, h1, h2⟩ := hr.two
    cases he
    cases rd_int h1
    cases rd_int h2
    exact op_mul pins s σ H _ _ v u Q I rx ry ⟨_, _, rfl, rfl, c, hq.giveI hF⟩
  · obtain ⟨_, _, he, h1, h2⟩ := hr.two
    cases he
    obtain ⟨a, vs, rfl, q1, d1, e1⟩ := rd_tup hF.sub h1
    cases rd_int h2
    rw [hK] at q1
    refine op_repT pins s σ H _ _ v u Q I rx ry ⟨a, k, vs, rfl, rfl, q1, fun e => ?_, k1, k2, by rw [d1.length]; exact hz, fun p np => hq.giveT hF np (d1.rep k.toNat)⟩
    subst e; cases d1; exact hn rfl
  · obtain ⟨_, _, he, h1, h2⟩ := hr.two
    cases he
    obtain ⟨l, vs, rfl, q1, d1⟩ := rd_list hF.sub h1
    cases rd_int h2
    rw [hK] at q1
    cases rx
    obtain ⟨t, rfl⟩ := ry
    obtain ⟨its, r, ⟨⟨cls, dd, data, sl⟩, n, ho, hc, _, hd⟩, hs⟩ := I.list q1
    simp only at hc hd
    subst hc hd
    have hl : vs.length = its.length := r.length
    have hzz : its.length * k.toNat ≤ sizeLine := by rw [← hl, d1.length]; exact hz
    have hlen : its.toArray.size * k.toNat ≤ sizeLine := by rw [List.size_toArray]; exact hzz
    have hcap : ¬ its.toArray.size * k.toNat > (2 ^ 63 - 1) / 8 := by
      have : (sizeLine : Nat) ≤ (2 ^ 63 - 1) / 8 := by decide
      omega
    have hfit : ¬ (!Builtin.List.listFitsIndex k) = true := by
      rw [fitsIndex_both k1 k2]
      exact Bool.false_ne_true
    have hlong : ¬ Builtin.List.listTooLong (its.toArray.size * k.toNat) = true := by
      rw [notLongL hlen]
      exact Bool.false_ne_true
    have hnew : List.foldl (fun x1 x2 => x1 ++ x2) #[] (List.replicate (if its.toArray.isEmpty = true then 0 else k.toNat) its.toArray) = (List.replicate k.toNat its).flatten.toArray := by
      have f0 : ∀ m : Nat, List.foldl (fun x1 x2 => x1 ++ x2) #[] (List.replicate m its.toArray) = (List.replicate m its).flatten.toArray := fun m => by
        have := foldl_rep its m []
        rw [List.nil_append] at this
        exact this
      rw [f0]
      cases its with
      | nil => simp
      | cons a r' => rw [if_neg (by simp)]
    refine wpAny_binaryOp_repeat_ref (T := "list") (U := "int") (by decide) ⟨_, ho, rfl⟩ (fun s' => typeIs_int s' k t) noFill_list_mul PySem.F.fills_int_mul PySem.F.slot_int_rmul repeat_list PySem.F.slot_int_index.lookup
      (call_meets PySem.F.slot_int_rmul (typeIs_int s k t) PySem.F.entry_int_rmul (PySem.F.args_int_rmul_2 _ _) (int_rmul_list k t l its.toArray n dd sl)
        ⟨ho, rfl, ⟨_, ho, rfl⟩, call_meets PySem.F.slot_list_mul ⟨_, ho, rfl⟩ PySem.F.entry_list_mul (PySem.F.args_list_mul_2 _ _) (list_mulW l its.toArray n dd sl k t hfit hcap hlong (by rw [hnew, List.size_toArray, PyProof.Rows.lm_len_rep_flat, Nat.mul_comm]; exact hzz)) ⟨ho, ?_⟩⟩)
    rw [hnew]
    exact ⟨.ref _, _, I.lnew (t' := s.toks) (r.rep k.toNat) (by rw [PyProof.Rows.lm_len_rep_flat, Nat.mul_comm, hl]; exact hzz), rfl, hq.giveL hF I.fresh (d1.rep k.toNat)⟩

/-! ### comparisons -/
theorem cmpS_inv {o : CmpOp} {ds : List D} {sv : SV} (h : cmpS o ds = some sv) : ∃ a b c, ds = [a, b] ∧ cmpP o a b = some c ∧ sv = vB c := by
  unfold cmpS at h; split at h
  · simp only [Option.map_eq_some_iff] at h
    obtain ⟨c, h1, rfl⟩ := h
    exact ⟨_, _, c, rfl, h1, rfl⟩
  · cases h
theorem room60 {A : Around} {m n : Nat} (hu : A.units + 100 < cLine) (h : m ≤ 60) : A.units + min m n < cLine := by
  have := Nat.min_le_left m n; omega
theorem eqP_inv {a b : D} {c : Bool} (h : eqP a b = some c) : a.depth ≤ 60 ∧ a.plain = true ∧ b.plain = true ∧ c = PyData.eqv a b := by
  unfold eqP at h
  split at h
  · rename_i q; cases h
    rw [Bool.and_eq_true] at q
    have p1 := shal_depth _ _ q.1
    have p2 := shal_depth _ _ q.2
    exact ⟨p1.1, p1.2, p2.2, rfl⟩
  · cases h
theorem ordB_inv {a b : D} (h : ordB a b = true) : PySem.W.alike a b = true ∧ a.depth ≤ 60 ∧ a ≠ .none := by
  unfold ordB at h
  rw [Bool.and_eq_true, Bool.and_eq_true] at h
  refine ⟨h.1.1, (shal_depth _ _ h.1.2).1, ?_⟩
  rintro rfl
  simp at h
theorem ltP_inv {a b : D} {c : Bool} (h : ltP a b = some c) : ordB a b = true ∧ c = PySem.W.dataLt a b := by
  unfold ltP at h; split at h
  · rename_i q; cases h; exact ⟨q, rfl⟩
  · cases h
theorem gtP_inv {a b : D} {c : Bool} (h : gtP a b = some c) : ordB a b = true ∧ c = PySem.W.dataLt b a := by
  unfold gtP at h; split at h
  · rename_i q; cases h; exact ⟨q, rfl⟩
  · cases h
theorem inSeq_inv {a b : D} {c : Bool} (h : inSeq a b = some c) : ∃ xs, (b = .list xs ∨ b = .tuple xs) ∧ a.depth ≤ 60 ∧ a.plain = true ∧ PyData.plainAll xs = true ∧ c = xs.any fun y => PyData.eqv y a := by
  unfold inSeq at h
  split at h
  · split at h
    · rename_i xs q; cases h; rw [Bool.and_eq_true] at q
      exact ⟨_, .inl rfl, (shal_depth _ _ q.1).1, (shal_depth _ _ q.1).2, (shal_depths _ _ q.2).2, rfl⟩
    · cases h
  · split at h
    · rename_i xs q; cases h; rw [Bool.and_eq_true] at q
      exact ⟨_, .inr rfl, (shal_depth _ _ q.1).1, (shal_depth _ _ q.1).2, (shal_depths _ _ q.2).2, rfl⟩
    · cases h
  · cases h
theorem room_in {A : Around} {m n : Nat} (hu : A.units + 100 < cLine) (h : n ≤ 60) : A.units + 1 + min m n < cLine := by
  have := Nat.min_le_right m n; omega
theorem op_eq_ok (hK : G.K = X.K) (hu : X.A.units + 100 < cLine) : OpR X (compareOp .Eq) (fun x y H Q => rOp G (.cmp .Eq) [x, y] H Q) := by
  intro pins s σ H x y v u Q I rx ry h
  obtain ⟨σ', F, fr, ts, ds, sv, hF, hr, ho, hq⟩ := h
  obtain ⟨a, b, c, rfl, hc, rfl⟩ := cmpS_inv ho
  obtain ⟨_, _, he, h1, h2⟩ := hr.two
  cases he
  obtain ⟨as, r1⟩ := h1.reads I hK hF.sub rx
  obtain ⟨bs, r2⟩ := h2.reads I hK hF.sub ry
  obtain ⟨p1, p2, p3, rfl⟩ := eqP_inv (show eqP a b = some c from hc)
  exact PySem.SeqAt.eq_plain r1 r2 p2 p3 (room60 hu p1) ⟨.bl _, H, I, rfl, hq.giveB hF⟩
theorem op_ne_ok (hK : G.K = X.K) (hu : X.A.units + 100 < cLine) : OpR X (compareOp .NotEq) (fun x y H Q => rOp G (.cmp .NotEq) [x, y] H Q) := by
  intro pins s σ H x y v u Q I rx ry h
  obtain ⟨σ', F, fr, ts, ds, sv, hF, hr, ho, hq⟩ := h
  obtain ⟨a, b, c, rfl, hc, rfl⟩ := cmpS_inv ho
  obtain ⟨_, _, he, h1, h2⟩ := hr.two
  cases he
  obtain ⟨as, r1⟩ := h1.reads I hK hF.sub rx
  obtain ⟨bs, r2⟩ := h2.reads I hK hF.sub ry
  obtain ⟨c', hc', rfl⟩ := Option.map_eq_some_iff.mp (show (eqP a b).map not = some c from hc)
  obtain ⟨p1, p2, p3, rfl⟩ := eqP_inv hc'
  exact PySem.SeqAt.ne_plain r1 r2 p2 p3 (room60 hu p1) ⟨.bl _, H, I, rfl, hq.giveB hF⟩
theorem op_lt_ok (hK : G.K = X.K) (hu : X.A.units + 100 < cLine) : OpR X (compareOp .Lt) (fun x y H Q => rOp G (.cmp .Lt) [x, y] H Q) := by
  intro pins s σ H x y v u Q I rx ry h
  obtain ⟨σ', F, fr, ts, ds, sv, hF, hr, ho, hq⟩ := h
  obtain ⟨a, b, c, rfl, hc, rfl⟩ := cmpS_inv ho
  obtain ⟨_, _, he, h1, h2⟩ := hr.two
  cases he
  obtain ⟨as, r1⟩ := h1.reads I hK hF.sub rx
  obtain ⟨bs, r2⟩ := h2.reads I hK hF.sub ry
  obtain ⟨q, rfl⟩ := ltP_inv (show ltP a b = some c from hc)
  obtain ⟨p1, p2, p3⟩ := ordB_inv q
  exact PySem.W.lt_data r1 r2 p1 p3 (room60 hu p2) ⟨.bl _, H, I, rfl, hq.giveB hF⟩
theorem op_gt_ok (hK : G.K = X.K) (hu : X.A.units + 100 < cLine) : OpR X (compareOp .Gt) (fun x y H Q => rOp G (.cmp .Gt) [x, y] H Q) := by
  intro pins s σ H x y v u Q I rx ry h
  obtain ⟨σ', F, fr, ts, ds, sv, hF, hr, ho, hq⟩ := h
  obtain ⟨a, b, c, rfl, hc, rfl⟩ := cmpS_inv ho
  obtain ⟨_, _, he, h1, h2⟩ := hr.two
  cases he
  obtain ⟨as, r1⟩ := h1.reads I hK hF.sub rx
  obtain ⟨bs, r2⟩ := h2.reads I hK hF.sub ry
  obtain ⟨q, rfl⟩ := gtP_inv (show gtP a b = some c from hc)
  obtain ⟨p1, p2, p3⟩ := ordB_inv q
  exact PySem.W.gt_data r1 r2 p1 p3 (room60 hu p2) ⟨.bl _, H, I, rfl, hq.giveB hF⟩
theorem op_le_ok (hK : G.K = X.K) (hu : X.A.units + 100 < cLine) : OpR X (compareOp .LtE) (fun x y H Q => rOp G (.cmp .LtE) [x, y] H Q) := by
  intro pins s σ H x y v u Q I rx ry h
  obtain ⟨σ', F, fr, ts, ds, sv, hF, hr, ho, hq⟩ := h
  obtain ⟨a, b, c, rfl, hc, rfl⟩ := cmpS_inv ho
  obtain ⟨_, _, he, h1, h2⟩ := hr.two
  cases he
  obtain ⟨as, r1⟩ := h1.reads I hK hF.sub rx
  obtain ⟨bs, r2⟩ := h2.reads I hK hF.sub ry
  obtain ⟨c', hc', rfl⟩ := Option.map_eq_some_iff.mp (show (gtP a b).map not = some c from hc)
  obtain ⟨q, rfl⟩ := gtP_inv hc'
  obtain ⟨p1, p2, p3⟩ := ordB_inv q
  exact PySem.W.le_data r1 r2 p1 p3 (room60 hu p2) ⟨.bl _, H, I, rfl, hq.giveB hF⟩
theorem op_ge_ok (hK : G.K = X.K) (hu : X.A.units + 100 < cLine) : OpR X (compareOp .GtE) (fun x y H Q => rOp G (.cmp .GtE) [x, y] H Q) := by
  intro pins s σ H x y v u Q I rx ry h
  obtain ⟨σ', F, fr, ts, ds, sv, hF, hr, ho, hq⟩ := h
  obtain ⟨a, b, c, rfl, hc, rfl⟩ := cmpS_inv ho
  obtain ⟨_, _, he, h1, h2⟩ := hr.two
  cases he
  obtain ⟨as, r1⟩ := h1.reads I hK hF.sub rx
  obtain ⟨bs, r2⟩ := h2.reads I hK hF.sub ry
  obtain ⟨c', hc', rfl⟩ := Option.map_eq_some_iff.mp (show (ltP a b).map not = some c from hc)
  obtain ⟨q, rfl⟩ := ltP_inv hc'
  obtain ⟨p1, p2, p3⟩ := ordB_inv q
  exact PySem.W.ge_data r1 r2 p1 p3 (room60 hu p2) ⟨.bl _, H, I, rfl, hq.giveB hF⟩
theorem op_in_ok (hK : G.K = X.K) (hu : X.A.units + 100 < cLine) : OpR X (compareOp .In) (fun x y H Q => rOp G (.cmp .In) [x, y] H Q) := by
  intro pins s σ H x y v u Q I rx ry h
  obtain ⟨σ', F, fr, ts, ds, sv, hF, hr, ho, hq⟩ := h
  obtain ⟨a, b, c, rfl, hc, rfl⟩ := cmpS_inv ho
  obtain ⟨_, _, he, h1, h2⟩ := hr.two
  cases he
  obtain ⟨as, r1⟩ := h1.reads I hK hF.sub rx
  obtain ⟨bs, r2⟩ := h2.reads I hK hF.sub ry
  obtain ⟨xs, hb, p1, p2, p3, rfl⟩ := inSeq_inv (show inSeq a b = some c from hc)
  rcases hb with rfl | rfl
  · exact PySem.SeqAt.in_list_data r2 r1 p3 p2 (room_in hu p1) ⟨.bl _, H, I, rfl, hq.giveB hF⟩
  · exact PySem.SeqAt.in_tuple_data r2 r1 p3 p2 (room_in hu p1) ⟨.bl _, H, I, rfl, hq.giveB hF⟩
theorem op_notin_ok (hK : G.K = X.K) (hu : X.A.units + 100 < cLine) : OpR X (compareOp .NotIn) (fun x y H Q => rOp G (.cmp .NotIn) [x, y] H Q) := by
  intro pins s σ H x y v u Q I rx ry h
  obtain ⟨σ', F, fr, ts, ds, sv, hF, hr, ho, hq⟩ := h
  obtain ⟨a, b, c, rfl, hc, rfl⟩ := cmpS_inv ho
  obtain ⟨_, _, he, h1, h2⟩ := hr.two
  cases he
  obtain ⟨as, r1⟩ := h1.reads I hK hF.sub rx
  obtain ⟨bs, r2⟩ := h2.reads I hK hF.sub ry
  obtain ⟨c', hc', rfl⟩ := Option.map_eq_some_iff.mp (show (inSeq a b).map not = some c from hc)
  obtain ⟨xs, hb, p1, p2, p3, rfl⟩ := inSeq_inv hc'
  rcases hb with rfl | rfl
  · exact PySem.SeqAt.notIn_list_data r2 r1 p3 p2 (room_in hu p1) ⟨.bl _, H, I, rfl, hq.giveB hF⟩
  · exact PySem.SeqAt.notIn_tuple_data r2 r1 p3 p2 (room_in hu p1) ⟨.bl _, H, I, rfl, hq.giveB hF⟩
/-- every comparison that is told -/
theorem op_cmp_ok (hK : G.K = X.K) (hu : X.A.units + 100 < cLine) {o : CmpOp} (h1 : o ≠ .Is) (h2 : o ≠ .IsNot) : OpR X (compareOp o) (fun x y H Q => rOp G (.cmp o) [x, y] H Q) := by
  cases o with
  | Eq => exact op_eq_ok hK hu
  | NotEq => exact op_ne_ok hK hu
  | Lt => exact op_lt_ok hK hu
  | LtE => exact op_le_ok hK hu
  | Gt => exact op_gt_ok hK hu
  | GtE => exact op_ge_ok hK hu
  | In => exact op_in_ok hK hu
  | NotIn => exact op_notin_ok hK hu
  | Is => exact absurd rfl h1
  | IsNot => exact absurd rfl h2
end
end PP

namespace PP
open PySem PySem.Spec PyProof.Rows
open L2

section
variable {X : Cx} {G : Ctx}
/-! ### places -/
theorem atI_of {K : PySem.W.Frag} {F : Hp} {vs : List V} {ds : List D} {i : Int} {d : D} (h : DpAll K F vs ds) (e : ((ixP ds.length i).bind fun j => ds[j]?) = some d) : ∃ v, atI vs i = some v ∧ Dp K F v d := by
  unfold atI
  rw [h.length]
  cases q : ixP ds.length i with
  | none => rw [q] at e; simp at e
  | some j =>
    rw [q] at e
    obtain ⟨v, h1, h2⟩ := h.get (show ds[j]? = some d from e)
    refine ⟨v, ?_, h2⟩
    rw [show ixN ds.length i = some j from q]
    exact h1
theorem idxS_inv {ds : List D} {sv : SV} (h : idxS ds = some sv) : ∃ xs i d, (ds = [.list xs, .int i] ∨ ds = [.tuple xs, .int i]) ∧ ((ixP xs.length i).bind fun j => xs[j]?) = some d ∧ sv = .val d := by
  unfold idxS at h; split at h
  · obtain ⟨d, h1, rfl⟩ := Option.map_eq_some_iff.mp h
    exact ⟨_, _, d, .inl rfl, h1, rfl⟩
  · obtain ⟨d, h1, rfl⟩ := Option.map_eq_some_iff.mp h
    exact ⟨_, _, d, .inr rfl, h1, rfl⟩
  · cases h
theorem ix_ok (hK : G.K = X.K) : IxR X (fun x y H Q => rOp G .idx [x, y] H Q) := by
  intro value slice pins s σ H x y v u Q I rx ry h hs
  obtain ⟨σ', F, fr, ts, ds, sv, hF, hr, ho, hq⟩ := h
  obtain ⟨xs, i, d, hd, he, rfl⟩ := idxS_inv ho
  rcases hd with rfl | rfl
  · obtain ⟨_, _, e, h1, h2⟩ := hr.two
    cases e
    cases rd_int h2
    obtain ⟨a, vs, rfl, q1, d1⟩ := rd_list hF.sub h1
    rw [hK] at q1
    obtain ⟨w, hw, hd⟩ := atI_of d1 he
    exact ix_list value slice pins s σ H _ _ v u Q I rx ry ⟨a, vs, i, w, rfl, rfl, q1, hw, hq.giveV hF hd⟩ hs
  · obtain ⟨_, _, e, h1, h2⟩ := hr.two
    cases e
    cases rd_int h2
    obtain ⟨a, vs, rfl, q1, d1, _⟩ := rd_tup hF.sub h1
    rw [hK] at q1
    obtain ⟨w, hw, hd⟩ := atI_of d1 he
    exact ix_tup value slice pins s σ H _ _ v u Q I rx ry ⟨a, vs, i, w, rfl, rfl, q1, hw, hq.giveV hF hd⟩ hs

/-! ### cuts -/
theorem cut_of {K : PySem.W.Frag} {F : Hp} {vs : List V} {ds : List D} (h : DpAll K F vs ds) (lo hi : Option Int) : DpAll K F (cutV vs lo hi) (cutP ds lo hi) := by
  unfold cutV cutP
  rw [h.length]
  exact (h.drop _).take _
theorem getItem_tuple_whole {prog : Program} {w : World} {A : Around} {E : Value → Shared → Prop} {s : Shared} {t sl : Addr} {items : Array Value} {vl vu : Value} {lo hi : Option Int} {Q : Value → Shared → Prop} (ht : IsTup s.heap t items) (hs : s.heap.IsSliceOf sl vl vu .none) (pl : IsPart vl lo) (pu : IsPart vu hi)
    (hw : HT.sIx items.size 0 lo = 0 ∧ HT.sIx items.size items.size hi = items.size) (h : Q (.ref t) s) : wpAny (model prog w) A (getItem (.ref t) (.ref sl)) Q E s := by
  obtain ⟨os, hos, hcs, hds⟩ := id hs
  have hTs : s.TypeIs (.ref sl) "slice" := ⟨os, hos, hcs⟩
  unfold getItem
  try with_reducible refine wpAny_holding ?_
  first | refine wpAny_bind (wpAny_pure ?_) | skip
  refine wpAny_bind (wpAny_sequenceKey ht.typeIs (by decide) ?_)
  refine wpAny_bind (wpAny_callSpecial?_slot (name := Str.ofString "__getitem__") ht.typeIs PyProof.Rows.slot_tuple_getitem
    (wpAny_call_entry PyProof.Rows.slot_tuple_getitem ht.typeIs entry_tuple_getitem ?_ (args_tuple_getitem _ _)))
  show wpAny _ _ (Builtin.Tuple.tupleItemsOf (.ref t) >>= _) _ _ s
  refine wpAny_bind (tupleItemsOf_ ht ?_)
  refine wpAny_bind (wpAny_typeOf hTs ?_)
  rw [if_pos (by decide)]
  refine wpAny_bind (HT.sliceApplied_gen hs pl pu ?_)
  have hyes : ((((HT.sIx items.size 0 lo : Nat) : Int) == 0 && (1 : Int) == 1 && (HT.sIx items.size items.size hi - HT.sIx items.size 0 lo) == items.size) = true) := by
    rw [hw.1, hw.2]; simp
  show wpAny _ _ (if (((HT.sIx items.size 0 lo : Nat) : Int) == 0 && (1 : Int) == 1 && (HT.sIx items.size items.size hi - HT.sIx items.size 0 lo) == items.size) = true then _ else _) _ _ s
  rw [if_pos hyes]
  refine wpAny_bind ?_
  unfold Builtin.Tuple.tupleIsExact
  refine wpAny_bind (wpAny_typeOf ht.typeIs (wpAny_pure ?_))
  rw [if_pos (by decide)]
  refine wpAny_bind (wpAny_rule ?_)
  exact wpAny_pure ⟨_, rfl, wpAny_pure h⟩
def rSl (G : Ctx) : V → Option Int → Option Int → Hp → VK → Prop := fun x lo hi H Q => ∃ σ F fr ts d sv, FOk G σ F H fr ts ∧ RdOk G F H x d ∧ cutS lo hi d = some sv ∧ okE G σ F fr ts sv Q
theorem sl_ok (hK : G.K = X.K) : SlR X (rSl G) := by
  intro pins s σ H x v vl vu lo hi sl Q I rx hs pl pu h
  obtain ⟨σ', F, fr, ts, d, sv, hF, hr, ho, hq⟩ := h
  unfold cutS at ho
  split at ho
  · cases ho
    obtain ⟨a, vs, rfl, q1, d1⟩ := rd_list hF.sub hr
    rw [hK] at q1
    exact sl_list pins s σ H _ v vl vu lo hi sl Q I rx hs pl pu ⟨a, vs, rfl, q1, fun p np => hq.giveL hF np (cut_of d1 lo hi)⟩
  · rename_i xs
    cases ho
    obtain ⟨a, vs, rfl, q1, d1, ed⟩ := rd_tup hF.sub hr
    rw [hK] at q1
    by_cases hw : HT.sIx vs.length 0 lo = 0 ∧ HT.sIx vs.length vs.length hi = vs.length
    · cases rx
      obtain ⟨its, r, ht, hz⟩ := I.tuple q1
      have hlen : its.toArray.size = vs.length := by rw [List.size_toArray]; exact r.length.symm
      refine ⟨"tuple", _, PyProof.Rows.slot_tuple_getitem.lookup, ht.typeIs, ?_⟩
      refine getItem_tuple_whole ht hs pl pu (by rw [hlen]; exact hw) ⟨.ref a, H, I, rfl, ?_⟩
      have ec : cutP xs lo hi = xs := by
        unfold cutP
        rw [← d1.length, hw.1, hw.2, d1.length]
        simp
      rw [ec] at hq
      exact hq.giveV hF ed
    · exact sl_tup pins s σ H _ v vl vu lo hi sl Q I rx hs pl pu ⟨a, vs, rfl, q1, hw, fun p np => hq.giveT hF np (cut_of d1 lo hi)⟩
  · cases ho

/-! ### built-ins by values -/
theorem len_ok (hK : G.K = X.K) : CallR X (.builtin "len") (rOp G .len) := by
  intro pins s σ H xs us Q I r h
  obtain ⟨σ', F, fr, ts, ds, sv, hF, hr, ho, hq⟩ := h
  have ho' : lenS ds = some sv := ho
  unfold lenS at ho'
  split at ho'
  · cases ho'
    obtain ⟨_, rfl, h1⟩ := hr.one
    obtain ⟨a, vs, rfl, q1, d1⟩ := rd_list hF.sub h1
    rw [hK] at q1
    rw [← d1.length] at hq
    exact call_len_seq pins s σ H _ us Q I r ⟨a, vs, rfl, .inl q1, hq.giveI hF⟩
  · cases ho'
    obtain ⟨_, rfl, h1⟩ := hr.one
    obtain ⟨a, vs, rfl, q1, d1, _⟩ := rd_tup hF.sub h1
    rw [hK] at q1
    rw [← d1.length] at hq
    exact call_len_seq pins s σ H _ us Q I r ⟨a, vs, rfl, .inr q1, hq.giveI hF⟩
  · split at ho'
    · rename_i q
      cases ho'
      obtain ⟨_, rfl, h1⟩ := hr.one
      cases rd_str h1
      exact call_len_str pins s σ H _ us Q I r ⟨_, rfl, okLen_le q, hq.giveI hF⟩
    · cases ho'
  · cases ho'
theorem tuple_ok (hK : G.K = X.K) : CallR X (.type "tuple") (rOp G .tupleOf) := by
  intro pins s σ H xs us Q I r h
  obtain ⟨σ', F, fr, ts, ds, sv, hF, hr, ho, hq⟩ := h
  have ho' : tupleS ds = some sv := ho
  unfold tupleS at ho'
  split at ho'
  · cases ho'
    obtain ⟨_, rfl, h1⟩ := hr.one
    obtain ⟨a, vs, rfl, q1, d1⟩ := rd_list hF.sub h1
    rw [hK] at q1
    exact call_tuple_of pins s σ H _ us Q I r ⟨a, vs, rfl, .inl ⟨q1, fun l nl => hq.giveT hF nl d1⟩⟩
  · cases ho'
    obtain ⟨_, rfl, h1⟩ := hr.one
    obtain ⟨a, vs, rfl, q1, d1, e1⟩ := rd_tup hF.sub h1
    rw [hK] at q1
    exact call_tuple_of pins s σ H _ us Q I r ⟨a, vs, rfl, .inr ⟨q1, hq.giveV hF e1⟩⟩
  · cases ho'
theorem list_ok (hK : G.K = X.K) : CallR X (.type "list") (rOp G .listOf) := by
  intro pins s σ H xs us Q I r h
  obtain ⟨σ', F, fr, ts, ds, sv, hF, hr, ho, hq⟩ := h
  have ho' : listS ds = some sv := ho
  unfold listS at ho'
  split at ho'
  · cases ho'
    obtain ⟨_, rfl, h1⟩ := hr.one
    obtain ⟨a, vs, rfl, q1, d1⟩ := rd_list hF.sub h1
    rw [hK] at q1
    exact call_list_of pins s σ H _ us Q I r ⟨a, vs, rfl, .inl q1, fun l nl => hq.giveL hF nl d1⟩
  · cases ho'
    obtain ⟨_, rfl, h1⟩ := hr.one
    obtain ⟨a, vs, rfl, q1, d1, e1⟩ := rd_tup hF.sub h1
    rw [hK] at q1
    exact call_list_of pins s σ H _ us Q I r ⟨a, vs, rfl, .inr q1, fun l nl => hq.giveL hF nl d1⟩
  · cases ho'
theorem all_ok (hK : G.K = X.K) (hc : X.calm = true) : CallR X (.builtin "all") (rOp G .allOf) := by
  intro pins s σ H xs us Q I r h
  obtain ⟨σ', F, fr, ts, ds, sv, hF, hr, ho, hq⟩ := h
  have ho' : allS ds = some sv := ho
  unfold allS at ho'
  split at ho'
  · obtain ⟨bs, h1, rfl⟩ := Option.map_eq_some_iff.mp ho'
    obtain ⟨_, rfl, h2⟩ := hr.one
    obtain ⟨a, vs, rfl, q1, d1⟩ := rd_list hF.sub h2
    rw [hK] at q1
    rw [boolsP_spec h1] at d1
    rw [d1.bools] at q1
    exact cr_all hc pins s σ H _ us Q I r ⟨a, bs, rfl, q1, hq.giveB hF⟩
  · cases ho'
theorem any_ok (hK : G.K = X.K) (hc : X.calm = true) : CallR X (.builtin "any") (rOp G .anyOf) := by
  intro pins s σ H xs us Q I r h
  obtain ⟨σ', F, fr, ts, ds, sv, hF, hr, ho, hq⟩ := h
  have ho' : anyS ds = some sv := ho
  unfold anyS at ho'
  split at ho'
  · obtain ⟨bs, h1, rfl⟩ := Option.map_eq_some_iff.mp ho'
    obtain ⟨_, rfl, h2⟩ := hr.one
    obtain ⟨a, vs, rfl, q1, d1⟩ := rd_list hF.sub h2
    rw [hK] at q1
    rw [boolsP_spec h1] at d1
    rw [d1.bools] at q1
    exact cr_any hc pins s σ H _ us Q I r ⟨a, bs, rfl, q1, hq.giveB hF⟩
  · cases ho'
theorem abs_ok : CallR X (.builtin "abs") (rOp G .absOf) := by
  intro pins s σ H xs us Q I r h
  obtain ⟨σ', F, fr, ts, ds, sv, hF, hr, ho, hq⟩ := h
  have ho' : absS ds = some sv := ho
  unfold absS at ho'
  split at ho'
  · cases ho'
    obtain ⟨_, rfl, h2⟩ := hr.one
    cases rd_int h2
    exact call_abs pins s σ H _ us Q I r ⟨_, rfl, hq.giveI hF⟩
  · cases ho'
theorem int_ok : CallR X (.type "int") (rOp G .intOf) := by
  intro pins s σ H xs us Q I r h
  obtain ⟨σ', F, fr, ts, ds, sv, hF, hr, ho, hq⟩ := h
  have ho' : intS ds = some sv := ho
  unfold intS at ho'
  split at ho'
  · cases ho'
    obtain ⟨_, rfl, h2⟩ := hr.one
    cases rd_int h2
    exact call_int1 pins s σ H _ us Q I r (.inl ⟨_, rfl, hq.giveI hF⟩)
  · cases ho'
    obtain ⟨_, rfl, h2⟩ := hr.one
    cases rd_bool h2
    exact call_int1 pins s σ H _ us Q I r (.inr ⟨_, rfl, hq.giveI hF⟩)
  · cases ho'
def tyN : Ty → String
  | .int => "int" | .bool => "bool" | .str => "str" | .tuple => "tuple" | .list => "list"
theorem isinst_ok (t : Ty) (hK : G.K = X.K) : CallR X (.builtin "isinstance") (fun xs H Q => ∃ x, xs = [x, .ty (tyN t)] ∧ rOp G (.isinst t) [x] H Q) := by
  intro pins s σ H xs us Q I r h
  obtain ⟨x, rfl, σ', F, fr, ts, ds, sv, hF, hr, ho, hq⟩ := h
  obtain ⟨u, w, rfl, ru, rw'⟩ := vals2 r
  have ew : w = Value.type (tyN t) := rw'
  subst ew
  have ho' : isinstS t ds = some sv := ho
  unfold isinstS at ho'
  split at ho'
  · rename_i d
    cases ho'
    obtain ⟨_, e, h2⟩ := hr.one
    cases e
    obtain ⟨as, r1⟩ := h2.reads I hK hF.sub ru
    cases t with
    | int => exact PySem.W.isinstance_int_data r1 fun tk _ => ⟨.bl _, H, I.tok _, by cases d <;> rfl, hq.giveB hF⟩
    | bool => exact PySem.W.isinstance_bool_data r1 fun tk _ => ⟨.bl _, H, I.tok _, by cases d <;> rfl, hq.giveB hF⟩
    | str => exact PySem.W.isinstance_str_data r1 fun tk _ => ⟨.bl _, H, I.tok _, by cases d <;> rfl, hq.giveB hF⟩
    | tuple => exact PySem.W.isinstance_tuple_data r1 fun tk _ => ⟨.bl _, H, I.tok _, by cases d <;> rfl, hq.giveB hF⟩
    | list => exact PySem.W.isinstance_list_data r1 fun tk _ => ⟨.bl _, H, I.tok _, by cases d <;> rfl, hq.giveB hF⟩
  · cases ho'
theorem op_is_ok {d : Option Bool} {w : V} (hw : w = (match d with | none => .non | some b => .bl b)) : OpR X (compareOp .Is) (fun x y H Q => y = w ∧ rOp G (.isC d true) [x] H Q) := by
  intro pins s σ H x y v u Q I rx ry h
  obtain ⟨rfl, σ', F, fr, ts, ds, sv, hF, hr, ho, hq⟩ := h
  have ho' : isCS d true ds = some sv := ho
  unfold isCS at ho'
  split at ho'
  · rename_i a
    obtain ⟨_, e, h2⟩ := hr.one
    cases e
    cases d with
    | none =>
      subst hw
      cases ho'
      refine op_isN pins s σ H _ _ v u Q I rx ry ⟨rfl, ?_⟩
      have : decide (x = .non) = (isNone a == true) := by
        cases a with
        | none => cases rd_none h2; rfl
        | bool b => cases rd_bool h2; rfl
        | int b => cases rd_int h2; rfl
        | str b => cases rd_str h2; rfl
        | list b => obtain ⟨_, _, rfl, _⟩ := rd_list hF.sub h2; rfl
        | tuple b => obtain ⟨_, _, rfl, _⟩ := rd_tup hF.sub h2; rfl
        | dict b =>
          rcases h2 with h2 | ⟨_, _, _, _, e, _⟩
          · cases h2
          · cases e
      rw [this]
      exact hq.giveB hF
    | some b =>
      subst hw
      cases a <;> simp only at ho' <;> try (cases ho'; done)
      cases ho'
      cases rd_bool h2
      refine op_isBl pins s σ H _ _ v u Q I rx ry ⟨_, _, rfl, rfl, ?_⟩
      rename_i c
      have : decide (c = b) = ((c == b) == true) := by cases c <;> cases b <;> rfl
      rw [this]
      exact hq.giveB hF
  · cases ho'
theorem op_isnot_ok {d : Option Bool} {w : V} (hw : w = (match d with | none => .non | some b => .bl b)) : OpR X (compareOp .IsNot) (fun x y H Q => y = w ∧ rOp G (.isC d false) [x] H Q) := by
  intro pins s σ H x y v u Q I rx ry h
  obtain ⟨rfl, σ', F, fr, ts, ds, sv, hF, hr, ho, hq⟩ := h
  have ho' : isCS d false ds = some sv := ho
  unfold isCS at ho'
  split at ho'
  · rename_i a
    obtain ⟨_, e, h2⟩ := hr.one
    cases e
    cases d with
    | none =>
      subst hw
      cases ho'
      refine op_notN pins s σ H _ _ v u Q I rx ry ⟨rfl, ?_⟩
      have : (!decide (x = .non)) = (isNone a == false) := by
        cases a with
        | none => cases rd_none h2; rfl
        | bool b => cases rd_bool h2; rfl
        | int b => cases rd_int h2; rfl
        | str b => cases rd_str h2; rfl
        | list b => obtain ⟨_, _, rfl, _⟩ := rd_list hF.sub h2; rfl
        | tuple b => obtain ⟨_, _, rfl, _⟩ := rd_tup hF.sub h2; rfl
        | dict b =>
          rcases h2 with h2 | ⟨_, _, _, _, e, _⟩
          · cases h2
          · cases e
      rw [this]
      exact hq.giveB hF
    | some b =>
      subst hw
      cases a <;> simp only at ho' <;> try (cases ho'; done)
      cases ho'
      cases rd_bool h2
      refine op_notBl pins s σ H _ _ v u Q I rx ry ⟨_, _, rfl, rfl, ?_⟩
      rename_i c
      have : (!decide (c = b)) = ((c == b) == false) := by cases c <;> cases b <;> rfl
      rw [this]
      exact hq.giveB hF
  · cases ho'

/-! ### least, greatest, sorted -/
theorem alikeAllP_spec {xs : List D} (h : alikeAllP xs = true) : ∀ x ∈ xs, ∀ y ∈ xs, PySem.W.alike x y = true := fun x hx y hy => by
  unfold alikeAllP at h
  rw [List.all_eq_true] at h
  have := h x hx
  rw [List.all_eq_true] at this
  exact this y hy
theorem noNone_spec {xs : List D} (h : noNone xs = true) : ∀ x ∈ xs, x ≠ .none := fun x hx e => by
  unfold noNone at h
  rw [List.all_eq_true] at h
  have := h x hx
  subst e
  simp at this
theorem best_max : ∀ (x : D) (xs : List D), bestP PySem.W.dataLt (x :: xs) = some (PySem.W.maxD x xs) := fun x xs => rfl
theorem best_min : ∀ (x : D) (xs : List D), bestP (fun a y => PySem.W.dataLt y a) (x :: xs) = some (PySem.W.minD x xs) := fun x xs => rfl
theorem at_unique {h : Heap} {xs : List D} {vs : List Value} {as bs : List Addr} {i : Nat} {v : Value} {d : D} (rs : ReadsAll h vs xs as) (hp : PyData.plainAll xs = true) (hv : vs[i]? = some v) (r : Reads h v d bs) : xs[i]? = some d := by
  obtain ⟨cs, r2, hi, _⟩ := PySem.W.readsAll_at rs i v hv
  have hm : xs.getD i .none ∈ xs := by
    rw [List.getD_eq_getElem?_getD, List.getElem?_eq_getElem hi]; exact List.getElem_mem hi
  have e := PySem.SeqAt.plain_unique _ _ v _ _ (PySem.W.plain_mem hp hm) r2 r
  rw [← e, List.getD_eq_getElem?_getD, List.getElem?_eq_getElem hi]
  rfl
theorem room_best {A : Around} {n : Nat} (hu : A.units + 100 < cLine) (h : n ≤ 60) : A.units + 1 + n < cLine := by omega
theorem max_ok (hK : G.K = X.K) (hc : X.calm = true) (hu : X.A.units + 100 < cLine) : CallR X (.builtin "max") (rOp G .maxOf) := by
  intro pins s σ H xs us Q I r h
  obtain ⟨σ', F, fr, ts, ds, sv, hF, hr, ho, hq⟩ := h
  have ho' : maxS ds = some sv := ho
  unfold maxS at ho'
  split at ho'
  · rename_i ys
    split at ho'
    · rename_i q
      rw [Bool.and_eq_true, Bool.and_eq_true] at q
      obtain ⟨d, h1, rfl⟩ := Option.map_eq_some_iff.mp ho'
      cases ys with
      | nil => simp [bestP] at h1
      | cons y ys =>
        rw [best_max] at h1
        cases h1
        obtain ⟨_, rfl, h2⟩ := hr.one
        obtain ⟨a, vs, rfl, q1, d1⟩ := rd_list hF.sub h2
        obtain ⟨u, rfl, ru⟩ := vals1 r
        cases ru
        rw [hK] at q1
        obtain ⟨its, rv, hl, _⟩ := I.list q1
        have sh := shal_depths _ _ q.2
        obtain ⟨as, ra⟩ := Dp.readsAll I _ vs its (hK ▸ d1.mono hF.sub) rv
        refine PySem.W.max_list_data (I.ok.hd hc) hl.isList (by simpa using ra) ⟨alikeAllP_spec q.1.1, noNone_spec q.1.2⟩ (room_best hu sh.1) fun i v h' tk bs hv hr' hk => ?_
        have I1 : Inv X pins σ H { s with heap := h', toks := tk } := I.kept hk
        have hv' : its[i]? = some v := by simpa using hv
        have ei := at_unique (PyProof.Rows.ReadsAll.keeps hk ra) sh.2 hv' hr'
        obtain ⟨w, hw, hd⟩ := d1.get ei
        obtain ⟨v', e', rv'⟩ := rv.get hw
        rw [hv'] at e'; cases e'
        exact ⟨w, H, I1, rv', hq.giveV hF hd⟩
    · cases ho'
  · cases ho'
theorem min_ok (hK : G.K = X.K) (hc : X.calm = true) (hu : X.A.units + 100 < cLine) : CallR X (.builtin "min") (rOp G .minOf) := by
  intro pins s σ H xs us Q I r h
  obtain ⟨σ', F, fr, ts, ds, sv, hF, hr, ho, hq⟩ := h
  have ho' : minS ds = some sv := ho
  unfold minS at ho'
  split at ho'
  · rename_i ys
    split at ho'
    · rename_i q
      rw [Bool.and_eq_true, Bool.and_eq_true] at q
      obtain ⟨d, h1, rfl⟩ := Option.map_eq_some_iff.mp ho'
      cases ys with
      | nil => simp [bestP] at h1
      | cons y ys =>
        rw [best_min] at h1
        cases h1
        obtain ⟨_, rfl, h2⟩ := hr.one
        obtain ⟨a, vs, rfl, q1, d1⟩ := rd_list hF.sub h2
        obtain ⟨u, rfl, ru⟩ := vals1 r
        cases ru
        rw [hK] at q1
        obtain ⟨its, rv, hl, _⟩ := I.list q1
        have sh := shal_depths _ _ q.2
        obtain ⟨as, ra⟩ := Dp.readsAll I _ vs its (hK ▸ d1.mono hF.sub) rv
        refine PySem.W.min_list_data (I.ok.hd hc) hl.isList (by simpa using ra) ⟨alikeAllP_spec q.1.1, noNone_spec q.1.2⟩ (room_best hu sh.1) fun i v h' tk bs hv hr' hk => ?_
        have I1 : Inv X pins σ H { s with heap := h', toks := tk } := I.kept hk
        have hv' : its[i]? = some v := by simpa using hv
        have ei := at_unique (PyProof.Rows.ReadsAll.keeps hk ra) sh.2 hv' hr'
        obtain ⟨w, hw, hd⟩ := d1.get ei
        obtain ⟨v', e', rv'⟩ := rv.get hw
        rw [hv'] at e'; cases e'
        exact ⟨w, H, I1, rv', hq.giveV hF hd⟩
    · cases ho'
  · cases ho'

theorem sortP_inv {xs ys : List D} (h : sortP xs = some ys) : PySem.W.AllAlike xs ∧ PySem.W.Sortable xs ∧ (∀ d ∈ xs, d.depth ≤ 60) ∧ ys = xs.mergeSort (PySem.W.dataLe false id) := by
  unfold sortP at h
  split at h
  · rename_i q
    cases h
    rw [Bool.and_eq_true, Bool.and_eq_true] at q
    refine ⟨alikeAllP_spec q.1.1, ?_, fun d hd => ?_, rfl⟩
    · have := q.1.2
      unfold sortableP at this
      rw [Bool.or_eq_true] at this
      rcases this with h1 | h1
      · left
        intro d hd
        rw [List.all_eq_true] at h1
        have := h1 d hd
        split at this
        · exact ⟨_, _, rfl⟩
        · cases this
      · right
        intro d hd
        rw [List.all_eq_true] at h1
        have := h1 d hd
        refine ⟨?_, ?_⟩
        · rintro rfl; simp at this
        · rintro ys rfl; simp at this
    · have := q.2
      rw [List.all_eq_true] at this
      exact (shal_depth _ _ (this d hd)).1
  · cases h
/-- values with what they stand for -/
theorem each_of {K : PySem.W.Frag} {F : Hp} : ∀ {vs : List V} {ds : List D} {us : List Value}, DpAll K F vs ds → Vals vs us → PySem.W.EachIs (fun u (p : V × D) => RelV p.1 u ∧ Dp K F p.1 p.2) us (vs.zip ds)
  | _, _, _, .nil, .nil => .nil
  | _, _, _, .cons h t, .cons r q => .cons ⟨r, h⟩ (each_of t q)
theorem of_each {K : PySem.W.Frag} {F : Hp} : ∀ {us : List Value} {ps : List (V × D)}, PySem.W.EachIs (fun u (p : V × D) => RelV p.1 u ∧ Dp K F p.1 p.2) us ps → Vals (ps.map Prod.fst) us ∧ DpAll K F (ps.map Prod.fst) (ps.map Prod.snd)
  | _, _, .nil => ⟨.nil, .nil⟩
  | _, _, .cons h t => ⟨.cons h.1 (of_each t).1, .cons h.2 (of_each t).2⟩
theorem zip_snd : ∀ {vs : List V} {ds : List D}, vs.length = ds.length → (vs.zip ds).map Prod.snd = ds
  | [], [], _ => rfl
  | _ :: vs, _ :: ds, h => by simp [zip_snd (vs := vs) (ds := ds) (by simpa using h)]
theorem sorted_ok (hK : G.K = X.K) (hu : X.A.units + 100 < cLine) : CallR X (.builtin "sorted") (rOp G .sortedOf) := by
  intro pins s σ H xs us Q I r h
  obtain ⟨σ', F, fr, ts, ds, sv, hF, hr, ho, hq⟩ := h
  have ho' : sortedS ds = some sv := ho
  unfold sortedS at ho'
  split at ho'
  · rename_i ys
    obtain ⟨zs, h1, rfl⟩ := Option.map_eq_some_iff.mp ho'
    obtain ⟨ha, hs, hd, rfl⟩ := sortP_inv h1
    obtain ⟨_, rfl, h2⟩ := hr.one
    obtain ⟨a, vs, rfl, q1, d1⟩ := rd_list hF.sub h2
    obtain ⟨u, rfl, ru⟩ := vals1 r
    cases ru
    rw [hK] at q1
    obtain ⟨its, rv, hl, hz⟩ := I.list q1
    have e0 := each_of d1 rv
    have hsnd := zip_snd d1.length
    have er : PySem.W.EachIs (fun v (b : V × D) => ∃ as, Reads s.heap v b.2 as) its (vs.zip ys) := e0.mono fun u p hp => Dp.reads I p.2 p.1 u (hK ▸ L2.Dp.mono hF.sub hp.2) hp.1
    have hlen : (vs.zip ys).length = ys.length := by rw [List.length_zip, d1.length]; simp
    refine PySem.W.sorted_data (enc := Prod.snd) (R := fun u p => RelV p.1 u ∧ Dp G.K F p.1 p.2) hl.isList e0 er (by rw [hsnd]; exact ha) (by rw [hsnd]; exact hs) (by rw [hlen, ← d1.length]; exact hz) (fun b hb => ?_) fun out hol he => ?_
    · have : b.2 ∈ ys := by rw [← hsnd]; exact List.mem_map_of_mem hb
      have := hd _ this
      omega
    · obtain ⟨v1, p1⟩ := of_each he
      have em : ((vs.zip ys).mergeSort (PySem.W.dataLe false Prod.snd)).map Prod.snd = ys.mergeSort (PySem.W.dataLe false id) := by
        have := List.map_mergeSort (r := PySem.W.dataLe false (Prod.snd : V × D → D)) (s := PySem.W.dataLe false (id : D → D)) (f := Prod.snd) (l := vs.zip ys) (fun a _ b _ => rfl)
        rw [this, hsnd]
      rw [em] at p1
      obtain ⟨ep, he'⟩ := PyProof.Rows.sortedAll_at s.heap its out.toArray
      have hl2 : (((vs.zip ys).mergeSort (PySem.W.dataLe false Prod.snd)).map Prod.fst).length ≤ sizeLine := by rw [v1.length, hol, hlen, ← d1.length]; exact hz
      exact ⟨.ref _, upd H (s.heap.objs.size + 1) (.lst (((vs.zip ys).mergeSort (PySem.W.dataLe false Prod.snd)).map Prod.fst)), I.laid (t' := s.toks) (fun _ _ => PyProof.Rows.sortedAll_old) (Nat.le_succ _) ⟨hl2, out, ep, v1, by simpa using he'⟩, rfl, hq.giveL hF (I.hok.fresh (Nat.le_succ _)) p1⟩
  · cases ho'
end
end PP

namespace PP
open PySem PySem.Spec PyProof.Rows
open L2

/-- what the context of a block grants -/
structure Rdy (X : Cx) (G : Ctx) (W : WX) (io : Bool) : Prop where
  hK : G.K = X.K
  hmg : G.mg = X.mg
  hc : X.calm = true
  hu : X.A.units + 100 < cLine
  hio : io = false → G.io = none
  tk : Takes X W
  nd : X.N.Nodup

/-- expressions that are told: no star, no set display, no slice alone -/
def okx : Expr → Bool
  | .Starred .. => false
  | .Set .. => false
  | .Slice .. => false
  | _ => true
theorem ns_okx {e : Expr} (h : okx e = true) : NS e := fun es env => by cases e <;> first | rfl | (simp [okx] at h)
theorem nb_okx {e : Expr} (h : okx e = true) (op : CmpOp) : behindInMarks op e = false := by cases e <;> first | rfl | (simp [okx] at h)
theorem ix_okx {e : Expr} (h : okx e = true) : PlainIx e := fun o i => by cases e <;> first | rfl | (simp [okx] at h)
theorem fs_okx {e : Expr} (h : okx e = true) (env : Env) (x : Value) : foldedSetIterable e env x = pure x := by cases e <;> first | rfl | (simp [okx] at h)

structure SE' (X : Cx) (G : Ctx) (W : WX) (cf : CF) (io : Bool) (e : Expr) (r : E) : Prop extends SE X G W cf io e r where
  k : okx e = true
theorem SE'.plain {X : Cx} {G : Ctx} {W : WX} {cf : CF} {io : Bool} {e : Expr} {r : E} (h : SE' X G W cf io e r) : SE X G W cf io e r := h.toSE

section
variable {X : Cx} {G : Ctx} {W : WX} {cf : CF} {io : Bool} {a b c e : Expr} {r r1 r2 r3 : E} {pos p p2 p3 : Pos}
/-- by a reading and its test -/
theorem pt_by {t : TE} (h : PT X e (tTest t)) (i : ∀ σ H Q, tE G W (evE cf io r) σ H Q → t σ H Q) : PT X e (tT G W (evB cf io r)) := by
  refine PT.imp h fun σ H Q hq => i σ H _ ?_
  obtain ⟨F, fr, ts, hF, hq⟩ := hq
  refine ⟨F, fr, ts, hF, ?_⟩
  unfold evB at hq
  cases q : evE cf io r fr with
  | stuck => rw [q] at hq; exact hq
  | raise c => rw [q] at hq; exact hq
  | ok p =>
    obtain ⟨f, s⟩ := p
    rw [q] at hq
    intro v F' H' s1 hs
    cases s with
    | own d => simp [toB] at hq
    | val d =>
      cases d <;> simp [toB] at hq
      obtain ⟨hd, hs⟩ := hs
      cases hd
      exact ⟨_, rfl, hq F' H' s1 hs⟩
theorem se_by {t : TE} (k : okx e = true) (hv : isVar r = none) (he : PE X e t) (ht : PT X e (tTest t)) (i : ∀ σ H Q, tE G W (evE cf io r) σ H Q → t σ H Q) : SE' X G W cf io e r :=
  { ns := ns_okx k, pe := PE.imp he i, pt := pt_by ht i, po := po_of hv (PE.imp he i), k := k }
theorem se_by' {t : TE} (k : okx e = true) (hv : isVar r = none) (he : PE X e t) (ht : ∀ whole, isTrue e X.env whole = (do let v ← whole; standAt e.pos; holding [v] (truthy v))) (i : ∀ σ H Q, tE G W (evE cf io r) σ H Q → t σ H Q) : SE' X G W cf io e r :=
  { ns := ns_okx k, pe := PE.imp he i, pt := pt_of (PE.imp he i) ht, po := po_of hv (PE.imp he i), k := k }
theorem SE.up (h : SE X G W cf io e r) (k : okx e = true) : SE' X G W cf io e r := { toSE := h, k := k }

theorem imp2 {o : Op} : ∀ σ H Q, tE G W (evE cf io (.op o (.cons r1 (.cons r2 .nil)))) σ H Q → tOp (fun x y H Q => rOp G o [x, y] H Q) (tO G W (evO cf io true r1)) (tO G W (evO cf io true r2)) σ H Q := fun σ H Q h =>
  tL2 (R := fun x y H1 => rOp G o [x, y] H1 Q) (by
    obtain ⟨F, fr, ts, hF, h⟩ := rOp_of h
    refine ⟨F, fr, ts, hF, ?_⟩
    cases q : evL cf io true (.cons r1 (.cons r2 .nil)) fr with
    | stuck => rw [q] at h; exact h
    | raise c => rw [q] at h; exact h
    | ok p =>
      rw [q] at h
      intro vs F1 H1 t1 s1 a1 g1 x y e
      subst e
      exact h _ F1 H1 t1 s1 a1 g1)
theorem tL1 {σ : L2.St} {H : Hp} {R : V → Hp → Prop} (h : tL G W (evL cf io true (.cons r1 .nil)) σ H fun vs H1 => ∀ x, vs = [x] → R x H1) : tO G W (evO cf io true r1) σ H fun x H1 => R x H1 := by
  obtain ⟨F, fr, ts, hF, hq⟩ := h
  refine ⟨F, fr, ts, hF, ?_⟩
  rw [evL_cons] at hq
  cases q : evO cf io true r1 fr with
  | stuck => rw [q] at hq; exact hq
  | raise c => rw [q] at hq; exact hq
  | ok p =>
    obtain ⟨f, a⟩ := p
    rw [q] at hq
    simp only [Res.bind_ok, evL_nil] at hq
    intro vs F1 H1 t1 s1 a1 h1 x ex
    subst ex
    exact hq [x] F1 H1 t1 s1 a1 h1 x rfl
theorem tL_imp {rs : Es} {b : Bool} {σ : L2.St} {H : Hp} {Q Q' : List V → Hp → Prop} (h : tL G W (evL cf io b rs) σ H Q) (i : ∀ vs H1, Q vs H1 → Q' vs H1) : tL G W (evL cf io b rs) σ H Q' := by
  obtain ⟨F, fr, ts, hF, h⟩ := h
  refine ⟨F, fr, ts, hF, ?_⟩
  cases q : evL cf io b rs fr with
  | stuck => rw [q] at h; exact h
  | raise c => rw [q] at h; exact h
  | ok p =>
    rw [q] at h
    intro vs F1 H1 t1 s1 a1 g1
    exact i _ _ (h vs F1 H1 t1 s1 a1 g1)
theorem imp1 {o : Op} : ∀ σ H Q, tE G W (evE cf io (.op o (.cons r1 .nil))) σ H Q → tO G W (evO cf io true r1) σ H fun x H1 => rOp G o [x] H1 Q := fun σ H Q h =>
  tL1 (tL_imp (rOp_of h) fun vs H1 q x e => by subst e; exact q)
theorem impN {o : Op} {rs : Es} : ∀ σ H Q, tE G W (evE cf io (.op o rs)) σ H Q → tCB (rOp G o) (tL G W (evL cf io true rs)) σ H Q := fun σ H Q h => rOp_of h

/-! ### operators -/
theorem se_bin {op : Operator} {o : Op} (hop : OpR X (binaryOp op) (fun x y H Q => rOp G o [x, y] H Q)) (h1 : SE X G W cf io a r1) (h2 : SE X G W cf io b r2) : SE' X G W cf io (.BinOp a op b pos) (.op o (.cons r1 (.cons r2 .nil))) :=
  se_by' rfl rfl (pe_op hop h1.po h2.po) (fun _ => rfl) imp2
theorem se_neg (h1 : SE X G W cf io a r1) : SE' X G W cf io (.UnaryOp .USub a pos) (.op .neg (.cons r1 .nil)) :=
  se_by' rfl rfl (pe_un un_neg_ok h1.po) (fun _ => rfl) imp1
theorem se_cmp (R : Rdy X G W io) {o : CmpOp} (n1 : o ≠ .Is) (n2 : o ≠ .IsNot) (h1 : SE X G W cf io a r1) (h2 : SE X G W cf io b r2) (kb : okx b = true) : SE' X G W cf io (.Compare a [o] [b] pos) (.op (.cmp o) (.cons r1 (.cons r2 .nil))) :=
  se_by rfl rfl (pe_cmpR (op_cmp_ok R.hK R.hu n1 n2) h1.po h2.po (nb_okx kb o)) (pt_cmpR (op_cmp_ok R.hK R.hu n1 n2) h1.po h2.po (nb_okx kb o)) imp2
/-- a constant as the right side of is -/
def cV : Option Bool → V
  | none => .non
  | some b => .bl b
theorem se_is {d : Option Bool} (h1 : SE X G W cf io a r1) (hb : PE X b (tC (cV d))) (kb : okx b = true) : SE' X G W cf io (.Compare a [.Is] [b] pos) (.op (.isC d true) (.cons r1 .nil)) := by
  have hop : OpR X (compareOp .Is) (fun x y H Q => y = cV d ∧ rOp G (.isC d true) [x] H Q) := op_is_ok (by cases d <;> rfl)
  refine se_by rfl rfl (pe_cmpR hop h1.po hb (nb_okx kb _)) (pt_cmpR hop h1.po hb (nb_okx kb _)) fun σ H Q h => ?_
  have := imp1 σ H Q h
  show tO G W (evO cf io true r1) σ H fun x H1 => cV d = cV d ∧ rOp G (.isC d true) [x] H1 Q
  obtain ⟨F, fr, ts, hF, hq⟩ := this
  refine ⟨F, fr, ts, hF, ?_⟩
  cases q : evO cf io true r1 fr with
  | stuck => rw [q] at hq; exact hq
  | raise c => rw [q] at hq; exact hq
  | ok p => rw [q] at hq; intro vs F1 H1 t1 s1 a1 g1 v ev; exact ⟨rfl, hq vs F1 H1 t1 s1 a1 g1 v ev⟩
theorem se_isnot {d : Option Bool} (h1 : SE X G W cf io a r1) (hb : PE X b (tC (cV d))) (kb : okx b = true) : SE' X G W cf io (.Compare a [.IsNot] [b] pos) (.op (.isC d false) (.cons r1 .nil)) := by
  have hop : OpR X (compareOp .IsNot) (fun x y H Q => y = cV d ∧ rOp G (.isC d false) [x] H Q) := op_isnot_ok (by cases d <;> rfl)
  refine se_by rfl rfl (pe_cmpR hop h1.po hb (nb_okx kb _)) (pt_cmpR hop h1.po hb (nb_okx kb _)) fun σ H Q h => ?_
  have := imp1 σ H Q h
  show tO G W (evO cf io true r1) σ H fun x H1 => cV d = cV d ∧ rOp G (.isC d false) [x] H1 Q
  obtain ⟨F, fr, ts, hF, hq⟩ := this
  refine ⟨F, fr, ts, hF, ?_⟩
  cases q : evO cf io true r1 fr with
  | stuck => rw [q] at hq; exact hq
  | raise c => rw [q] at hq; exact hq
  | ok p => rw [q] at hq; intro vs F1 H1 t1 s1 a1 g1 v ev; exact ⟨rfl, hq vs F1 H1 t1 s1 a1 g1 v ev⟩
theorem evE_chain {o1 o2 : CmpOp} {ab c : Es} {fr : Fr} : evE cf io (.chain o1 o2 ab c) fr = Res.bind (evL cf io true ab fr) fun (f, as) => Res.bind (.ofOpt (conts f as)) fun ds => Res.bind (.ofOpt (opSem (.cmp o1) ds)) fun s => Res.bind (toB s) fun t =>
      if t then Res.bind (evL cf io true c f) fun (g, as2) => Res.bind (.ofOpt (conts g (as.drop 1 ++ as2))) fun ds2 => Res.bind (.ofOpt (opSem (.cmp o2) ds2)) fun s2 => .ok (g, s2)
      else .ok (f, vB false) := by rw [evE]
theorem AvsOk.len {K : PySem.W.Frag} {F : Hp} {σ : L2.St} : ∀ {vs : List V} {as : List AV} {ts : List (Addr × D)}, AvsOk K F σ vs as ts → vs.length = as.length
  | _, _, _, .nil => rfl
  | _, _, _, .val _ t => by simp [AvsOk.len t]
  | _, _, _, .own t => by simp [AvsOk.len t]
  | _, _, _, .bor _ t => by simp [AvsOk.len t]
theorem AvsOk.tail {K : PySem.W.Frag} {F : Hp} {σ : L2.St} {v : V} {a : AV} {vs : List V} {as : List AV} {ts : List (Addr × D)} (h : AvsOk K F σ (v :: vs) (a :: as) ts) : ∃ ts', AvsOk K F σ vs as ts' ∧ ∀ p ∈ ts', p ∈ ts := by
  cases h with
  | val _ t => exact ⟨_, t, fun _ h => h⟩
  | own t => exact ⟨_, t, fun _ h => List.mem_cons_of_mem _ h⟩
  | bor _ t => exact ⟨_, t, fun _ h => h⟩
theorem AvsOk.app {K : PySem.W.Frag} {F : Hp} {σ : L2.St} : ∀ {vs ws : List V} {as bs : List AV} {ts us : List (Addr × D)}, AvsOk K F σ vs as ts → AvsOk K F σ ws bs us → AvsOk K F σ (vs ++ ws) (as ++ bs) (ts ++ us)
  | _, _, _, _, _, _, .nil, h => h
  | _, _, _, _, _, _, .val d t, h => .val d (AvsOk.app t h)
  | _, _, _, _, _, _, .own t, h => .own (AvsOk.app t h)
  | _, _, _, _, _, _, .bor d t, h => .bor d (AvsOk.app t h)
theorem imp_chain {o1 o2 : CmpOp} : ∀ σ H Q, tE G W (evE cf io (.chain o1 o2 (.cons r1 (.cons r2 .nil)) (.cons r3 .nil))) σ H Q →
    tChain (fun x y H Q => rOp G (.cmp o1) [x, y] H Q) (fun x y H Q => rOp G (.cmp o2) [x, y] H Q) (tO G W (evO cf io true r1)) (tO G W (evO cf io true r2)) (tO G W (evO cf io true r3)) σ H Q := by
  intro σ H Q h
  refine tL2 (R := fun x y H2 => rOp G (.cmp o1) [x, y] H2 fun z H3 => ∃ k, z = .bl k ∧ (if k = true then tO G W (evO cf io true r3) σ H3 (fun w' H4 => rOp G (.cmp o2) [y, w'] H4 Q) else Q (.bl false) H3)) ?_
  obtain ⟨F, fr, ts, hF, h⟩ := h
  refine ⟨F, fr, ts, hF, ?_⟩
  rw [evE_chain] at h
  cases q : evL cf io true (.cons r1 (.cons r2 .nil)) fr with
  | stuck => rw [q] at h; exact h
  | raise c => rw [q] at h; exact h
  | ok p =>
    obtain ⟨f, as⟩ := p
    rw [q] at h
    simp only [Res.bind_ok] at h
    intro vs F1 H1 t1 s1 a1 g1 x y ev
    subst ev
    cases q2 : conts f as with
    | none => rw [q2] at h; exact h.elim
    | some ds =>
      rw [q2] at h
      simp only [Res.bind_ok, Res.ofOpt_some] at h
      cases q3 : opSem (.cmp o1) ds with
      | none => rw [q3] at h; exact h.elim
      | some s =>
        rw [q3] at h
        simp only [Res.bind_ok, Res.ofOpt_some] at h
        have rdy := rd_of a1 (fun p hp => g1.tmp p (List.mem_append_left _ hp)) g1.dropAll q2
        refine ⟨σ, F1, f, t1 ++ ts, ds, s, g1, rdy, q3, ?_⟩
        obtain ⟨_, _, k, rfl, _, rfl⟩ := cmpS_inv q3
        simp only [vB, toB, Res.bind_ok] at h
        rintro v F2 H2 s2 ⟨hd, g2⟩
        cases hd
        refine ⟨k, rfl, ?_⟩
        cases k with
        | false =>
          rw [if_neg Bool.false_ne_true]
          rw [if_neg Bool.false_ne_true] at h
          exact h _ F2 H2 (s1.trans s2) ⟨.bl false, g2.dropAll⟩
        | true =>
          rw [if_pos rfl]
          rw [if_pos rfl] at h
          refine tL1 (R := fun w' H4 => rOp G (.cmp o2) [y, w'] H4 Q) ⟨F2, f, t1 ++ ts, g2, ?_⟩
          cases q4 : evL cf io true (.cons r3 .nil) f with
          | stuck => rw [q4] at h; exact h
          | raise c => rw [q4] at h; exact h
          | ok p2 =>
            obtain ⟨g, as2⟩ := p2
            rw [q4] at h
            simp only [Res.bind_ok] at h
            intro ws F3 H3 t3 s3 a3 g3 z ez
            subst ez
            cases as with
            | nil => cases a1
            | cons av as' =>
              obtain ⟨t1', a1', hsub⟩ := (a1.mono (s2.trans s3)).tail
              simp only [List.drop_succ_cons, List.drop_zero] at h
              cases q5 : conts g (as' ++ as2) with
              | none => rw [q5] at h; exact h.elim
              | some ds2 =>
                rw [q5] at h
                simp only [Res.bind_ok, Res.ofOpt_some] at h
                cases q6 : opSem (.cmp o2) ds2 with
                | none => rw [q6] at h; exact h.elim
                | some sv =>
                  rw [q6] at h
                  simp only [Res.bind_ok, Res.ofOpt_some] at h
                  have hT : ∀ p ∈ t1' ++ t3, Owned G F3 H3 p.1 p.2 := fun p hp => g3.tmp p (by
                    rcases List.mem_append.mp hp with hp | hp
                    · exact List.mem_append_right _ (List.mem_append_left _ (hsub p hp))
                    · exact List.mem_append_left _ hp)
                  have g3' : FOk G σ F3 H3 g ts := g3.dropAll.dropAll
                  exact ⟨σ, F3, g, ts, ds2, sv, g3', rd_of (a1'.app a3) hT g3' q5, q6, okE.weak h ((s1.trans s2).trans s3)⟩
theorem se_chain (R : Rdy X G W io) {o1 o2 : CmpOp} (n1 : o1 ≠ .Is) (n2 : o1 ≠ .IsNot) (n3 : o2 ≠ .Is) (n4 : o2 ≠ .IsNot) (h1 : SE X G W cf io a r1) (h2 : SE X G W cf io b r2) (h3 : SE X G W cf io c r3) (kc : okx c = true) :
    SE' X G W cf io (.Compare a [o1, o2] [b, c] pos) (.chain o1 o2 (.cons r1 (.cons r2 .nil)) (.cons r3 .nil)) := by
  have hm : lastMarks [o1, o2] [b, c] = false := nb_okx kc o2
  exact se_by rfl rfl (pe_chain (op_cmp_ok R.hK R.hu n1 n2) (op_cmp_ok R.hK R.hu n3 n4) h1.po h2.po h3.po hm) (pt_chain (op_cmp_ok R.hK R.hu n1 n2) (op_cmp_ok R.hK R.hu n3 n4) h1.po h2.po h3.po hm) imp_chain

/-! ### places and cuts -/
theorem se_idx (R : Rdy X G W io) (h1 : SE X G W cf io a r1) (h2 : SE X G W cf io b r2) (kb : okx b = true) : SE' X G W cf io (.Subscript a b pos) (.op .idx (.cons r1 (.cons r2 .nil))) :=
  se_by' rfl rfl (pe_ix (ix_ok R.hK) h1.po h2.po (ix_okx kb)) (fun _ => rfl) imp2
theorem tL3 {σ : L2.St} {H : Hp} {R : V → V → V → Hp → Prop} (h : tL G W (evL cf io true (.cons r1 (.cons r2 (.cons r3 .nil)))) σ H fun vs H1 => ∀ x y z, vs = [x, y, z] → R x y z H1) :
    tO G W (evO cf io true r1) σ H fun x H1 => tO G W (evO cf io true r2) σ H1 fun y H2 => tO G W (evO cf io true r3) σ H2 fun z H3 => R x y z H3 := by
  obtain ⟨F, fr, ts, hF, hq⟩ := h
  refine ⟨F, fr, ts, hF, ?_⟩
  rw [evL_cons] at hq
  cases q : evO cf io true r1 fr with
  | stuck => rw [q] at hq; exact hq
  | raise c => rw [q] at hq; exact hq
  | ok p =>
    obtain ⟨f, a⟩ := p
    rw [q] at hq
    intro vs F1 H1 t1 s1 a1 h1 x ex
    subst ex
    simp only [Res.bind_ok] at hq
    refine tL2 (R := fun y z H3 => R x y z H3) ⟨F1, f, t1 ++ ts, h1, ?_⟩
    cases q2 : evL cf io true (.cons r2 (.cons r3 .nil)) f with
    | stuck => rw [q2] at hq; exact hq
    | raise c => rw [q2] at hq; exact hq
    | ok p2 =>
      obtain ⟨g, as⟩ := p2
      rw [q2] at hq
      simp only [Res.bind_ok] at hq
      intro ws F2 H2 t2 s2 b2 h2 y z ey
      subst ey
      refine hq [x, y, z] F2 H2 (t1 ++ t2) (s1.trans s2) ((a1.mono s2).cons1 b2) (h2.perm ?_) x y z rfl
      rw [List.append_assoc]
      exact (List.perm_append_comm_assoc t1 t2 ts).trans (List.Perm.refl _)
theorem tO_imp {σ : L2.St} {H : Hp} {Q Q' : VK} (h : tO G W (evO cf io true r) σ H Q) (i : ∀ v H1, Q v H1 → Q' v H1) : tO G W (evO cf io true r) σ H Q' := by
  obtain ⟨F, fr, ts, hF, hq⟩ := h
  refine ⟨F, fr, ts, hF, ?_⟩
  cases q : evO cf io true r fr with
  | stuck => rw [q] at hq; exact hq
  | raise c => rw [q] at hq; exact hq
  | ok p => rw [q] at hq; intro vs F1 H1 t1 s1 a1 g1 v ev; exact i _ _ (hq vs F1 H1 t1 s1 a1 g1 v ev)
theorem sliceS00 {ds : List D} {sv : SV} (h : sl00 ds = some sv) : ∃ x, ds = [x] ∧ cutS none none x = some sv := by
  unfold sl00 at h; split at h <;> first | exact ⟨_, rfl, h⟩ | cases h
theorem sliceS10 {ds : List D} {sv : SV} (h : sl10 ds = some sv) : ∃ x i, ds = [x, .int i] ∧ cutS (some i) none x = some sv := by
  unfold sl10 at h; split at h <;> first | exact ⟨_, _, rfl, h⟩ | cases h
theorem sliceS01 {ds : List D} {sv : SV} (h : sl01 ds = some sv) : ∃ x i, ds = [x, .int i] ∧ cutS none (some i) x = some sv := by
  unfold sl01 at h; split at h <;> first | exact ⟨_, _, rfl, h⟩ | cases h
theorem sliceS11 {ds : List D} {sv : SV} (h : sl11 ds = some sv) : ∃ x i j, ds = [x, .int i, .int j] ∧ cutS (some i) (some j) x = some sv := by
  unfold sl11 at h; split at h <;> first | exact ⟨_, _, _, rfl, h⟩ | cases h
theorem se_sl00 (R : Rdy X G W io) (h1 : SE X G W cf io a r1) : SE' X G W cf io (.Subscript a (.Slice none none none p2) pos) (.op (.slice false false) (.cons r1 .nil)) := by
  refine se_by' rfl rfl (pe_slice (sl_ok R.hK) h1.po po_none po_none) (fun _ => rfl) fun σ H Q h => ?_
  refine tO_imp (imp1 σ H Q h) fun v H1 ⟨σ', F, fr, ts, ds, sv, hF, hr, ho, hq⟩ => ?_
  obtain ⟨x, rfl, ho'⟩ := sliceS00 ho
  obtain ⟨_, e, h⟩ := hr.one
  cases e
  exact ⟨σ', F, fr, ts, _, sv, hF, h, ho', hq⟩
theorem se_sl10 (R : Rdy X G W io) (h1 : SE X G W cf io a r1) (h2 : SE X G W cf io b r2) : SE' X G W cf io (.Subscript a (.Slice (some b) none none p2) pos) (.op (.slice true false) (.cons r1 (.cons r2 .nil))) := by
  refine se_by' rfl rfl (pe_slice (sl_ok R.hK) h1.po (po_some h2.po) po_none) (fun _ => rfl) fun σ H Q h => ?_
  have q := imp2 (o := .slice true false) σ H Q h
  refine tO_imp q fun x H1 q => tO_imp q fun y H2 ⟨σ', F, fr, ts, ds, sv, hF, hr, ho, hq⟩ => ?_
  obtain ⟨x', i, rfl, ho'⟩ := sliceS10 ho
  obtain ⟨_, _, e, h1, h2⟩ := hr.two
  cases e
  cases rd_int h2
  exact ⟨_, rfl, σ', F, fr, ts, _, sv, hF, h1, ho', hq⟩
theorem se_sl01 (R : Rdy X G W io) (h1 : SE X G W cf io a r1) (h2 : SE X G W cf io b r2) : SE' X G W cf io (.Subscript a (.Slice none (some b) none p2) pos) (.op (.slice false true) (.cons r1 (.cons r2 .nil))) := by
  refine se_by' rfl rfl (pe_slice (sl_ok R.hK) h1.po po_none (po_some h2.po)) (fun _ => rfl) fun σ H Q h => ?_
  have q := imp2 (o := .slice false true) σ H Q h
  refine tO_imp q fun x H1 q => tO_imp q fun y H2 ⟨σ', F, fr, ts, ds, sv, hF, hr, ho, hq⟩ => ?_
  obtain ⟨x', i, rfl, ho'⟩ := sliceS01 ho
  obtain ⟨_, _, e, h1, h2⟩ := hr.two
  cases e
  cases rd_int h2
  exact ⟨_, rfl, σ', F, fr, ts, _, sv, hF, h1, ho', hq⟩
/-- a[lo:hi], the parts looked at behind both -/
theorem pe_sl11 {r : V → Option Int → Option Int → Hp → VK → Prop} {te tl th : TE} (hr : SlR X r) (he : PE X a te) (hl : PE X b tl) (hu : PE X c th) :
    PE X (.Subscript a (.Slice (some b) (some c) none p2) pos) (fun σ H Q => te σ H fun x H1 => tl σ H1 fun y H2 => th σ H2 fun z H3 => ∃ i j, y = .int i ∧ z = .int j ∧ r x (some i) (some j) H3 Q) := by
  refine ⟨fun pins s σ H Q I h => ?_⟩
  refine Subscript_ (thn (he.run pins s σ H _ I h) fun v s1 ⟨x, H1, I1, r1, q1⟩ => ?_)
  refine wpAny_Slice ?_
  rw [evalPart_some]
  refine thn (hl.run pins s1 σ H1 _ I1 q1) fun vl s2 ⟨l, H2, I2, pl, q2⟩ => ?_
  rw [evalPart_some]
  refine thn (hu.run pins s2 σ H2 _ I2 q2) fun vu s3 ⟨u, H3, I3, pu, q3⟩ => ?_
  rw [evalPart_none]
  refine wpAny_pure ?_
  obtain ⟨i, j, rfl, rfl, q3⟩ := q3
  obtain ⟨t1, rfl⟩ := pl
  obtain ⟨t2, rfl⟩ := pu
  have I4 : L2.Inv X pins σ H3 { s3 with heap := s3.heap.push { cls := .type "slice", data := .fields #[.int i t1, .int j t2, .none] } } := I3.kept (t' := s3.toks) fun b ob q => Heap.get?_push_of_some _ q
  obtain ⟨T, id, hT, ht, hg⟩ := hr pins { s3 with heap := s3.heap.push { cls := .type "slice", data := .fields #[.int i t1, .int j t2, .none] } } σ H3 x v (.int i t1) (.int j t2) (some i) (some j) s3.heap.objs.size Q I4 r1 (Heap.IsSliceOf.new ..) (.int i t1) (.int j t2) q3
  show wpAny (model X.prog X.w) X.A (subscriptTail a (.Slice (some b) (some c) none p2) v (.ref s3.heap.objs.size)) (EP X pins σ Q) X.xe { s3 with heap := s3.heap.push { cls := .type "slice", data := .fields #[.int i t1, .int j t2, .none] } }
  exact tail_any (ops := [.ref s3.heap.objs.size, v]) ht hT hg (by with_unfolding_all rfl)
theorem imp3 {o : Op} : ∀ σ H Q, tE G W (evE cf io (.op o (.cons r1 (.cons r2 (.cons r3 .nil))))) σ H Q → tO G W (evO cf io true r1) σ H fun x H1 => tO G W (evO cf io true r2) σ H1 fun y H2 => tO G W (evO cf io true r3) σ H2 fun z H3 => rOp G o [x, y, z] H3 Q := fun σ H Q h =>
  tL3 (R := fun x y z H1 => rOp G o [x, y, z] H1 Q) (tL_imp (rOp_of h) fun vs H1 q x y z e => by subst e; exact q)
theorem se_sl11 (R : Rdy X G W io) (h1 : SE X G W cf io a r1) (h2 : SE X G W cf io b r2) (h3 : SE X G W cf io c r3) : SE' X G W cf io (.Subscript a (.Slice (some b) (some c) none p2) pos) (.op (.slice true true) (.cons r1 (.cons r2 (.cons r3 .nil)))) := by
  refine se_by' rfl rfl (pe_sl11 (sl_ok R.hK) h1.po h2.po h3.po) (fun _ => rfl) fun σ H Q h => ?_
  have q := imp3 (o := .slice true true) σ H Q h
  refine tO_imp q fun x H1 q => tO_imp q fun y H2 q => tO_imp q fun z H3 ⟨σ', F, fr, ts, ds, sv, hF, hr, ho, hq⟩ => ?_
  obtain ⟨x', i, j, rfl, ho'⟩ := sliceS11 ho
  obtain ⟨_, _, _, e, h1, h2, h3⟩ := hr.three
  cases e
  cases rd_int h2
  cases rd_int h3
  exact ⟨_, _, rfl, rfl, σ', F, fr, ts, _, sv, hF, h1, ho', hq⟩
theorem se_rev (R : Rdy X G W io) {k : Nat} {p3 p4 : Pos} (h1 : SE X G W cf io a r1) : SE' X G W cf io (.Subscript a (.Slice none none (some (.UnaryOp .USub (.Constant (.int 1) k p2) p3)) p4) pos) (.op .rev (.cons r1 .nil)) := by
  refine se_by' rfl rfl (pe_revL h1.po) (fun _ => rfl) fun σ H Q h => ?_
  refine tO_imp (imp1 σ H Q h) fun v H1 ⟨σ', F, fr, ts, ds, sv, hF, hr, ho, hq⟩ => ?_
  have ho' : revS ds = some sv := ho
  unfold revS at ho'
  split at ho'
  · cases ho'
    obtain ⟨_, e, h⟩ := hr.one
    cases e
    obtain ⟨a, vs, rfl, q1, d1⟩ := rd_list hF.sub h
    rw [R.hK] at q1
    exact ⟨a, vs, rfl, q1, fun p np => hq.giveL hF np d1.reverse⟩
  · cases ho'

/-! ### built-ins -/
theorem any_false {p : Pos} {env : Env} : ∀ {es : List Expr}, (∀ e ∈ es, okx e = true) → (backTo p (starEach es env)).any (·.1) = false
  | [], _ => rfl
  | e :: es, h => by
    rw [ns_okx (h e (List.mem_cons_self)) es env]
    have := any_false (p := p) (env := env) (es := es) fun x hx => h x (List.mem_cons_of_mem _ hx)
    cases es with
    | nil => rfl
    | cons f fs => exact this
inductive SEs' (X : Cx) (G : Ctx) (W : WX) (cf : CF) (io : Bool) : List Expr → Es → Prop
  | nil : SEs' X G W cf io [] .nil
  | cons {e r es rs} : SE' X G W cf io e r → SEs' X G W cf io es rs → SEs' X G W cf io (e :: es) (.cons r rs)
theorem SEs'.plain : ∀ {es : List Expr} {rs : Es}, SEs' X G W cf io es rs → SEs X G W cf io es rs
  | _, _, .nil => .nil
  | _, _, .cons h t => .cons h.toSE t.plain
theorem SEs'.k : ∀ {es : List Expr} {rs : Es}, SEs' X G W cf io es rs → ∀ e ∈ es, okx e = true
  | _, _, .nil, e, h => by cases h
  | _, _, .cons h t, e, he => by
    rcases List.mem_cons.mp he with rfl | he
    · exact h.k
    · exact t.k e he
theorem se_callB {x : Str} {id : String} {o : Op} {es : List Expr} {rs : Es} (hr : CallR X (.builtin id) (rOp G o)) (hg : Gl X x) (hm : X.mg x = none) (hv : bootBuiltins x = some (.builtin id)) (hn : x ≠ "__name__") (hdb : (x == ("__debug__" : Str)) = false) (h : SEs' X G W cf io (e :: es) rs) :
    SE' X G W cf io (.Call (.Name x p) (e :: es) [] pos) (.op o rs) := by
  refine se_by' rfl rfl (pe_callB hr hg hm hv (pa_of (b := true) h.plain) hn hdb (ns_okx (h.k e (List.mem_cons_self)) _ _) (any_false fun y hy => h.k y (List.mem_cons_of_mem _ hy))) (fun _ => rfl) impN
theorem se_callTy {x : Str} {id : String} {o : Op} {es : List Expr} {rs : Es} (hr : CallR X (.type id) (rOp G o)) (hg : Gl X x) (hm : X.mg x = none) (hv : bootBuiltins x = some (.type id)) (hn : x ≠ "__name__") (hdb : (x == ("__debug__" : Str)) = false) (h : SEs' X G W cf io (e :: es) rs) :
    SE' X G W cf io (.Call (.Name x p) (e :: es) [] pos) (.op o rs) := by
  refine se_by' rfl rfl (pe_callTy hr hg hm hv (pa_of (b := true) h.plain) hn hdb (ns_okx (h.k e (List.mem_cons_self)) _ _) (any_false fun y hy => h.k y (List.mem_cons_of_mem _ hy))) (fun _ => rfl) impN
/-- isinstance(e, T) -/
theorem se_isinst (R : Rdy X G W io) {x y : Str} {t : Ty} (hg : Gl X x) (hm : X.mg x = none) (hv : bootBuiltins x = some (.builtin "isinstance")) (hn : x ≠ "__name__") (hdb : (x == ("__debug__" : Str)) = false)
    (hg2 : Gl X y) (hm2 : X.mg y = none) (hv2 : bootBuiltins y = some (.type (tyN t))) (hn2 : y ≠ "__name__") (hdb2 : (y == ("__debug__" : Str)) = false) (h : SE' X G W cf io e r1) :
    SE' X G W cf io (.Call (.Name x p) [e, .Name y p2] [] pos) (.op (.isinst t) (.cons r1 .nil)) := by
  have pa : PA X [e, .Name y p2] (tCons (tO G W (evO cf io true r1)) (tCons (tC (.ty (tyN t))) tNil)) := pa_cons h.po (pa_cons (pe_bltn hg2 hm2 hv2 rfl hn2 hdb2) pa_nil) (ns_okx h.k _ _)
  refine se_by' rfl rfl (pe_callB (isinst_ok t R.hK) hg hm hv pa hn hdb (ns_okx h.k _ _) rfl) (fun _ => rfl) fun σ H Q hq => ?_
  exact tO_imp (imp1 σ H Q hq) fun v H1 q => ⟨v, rfl, q⟩
end
end PP

namespace PP
open PySem PySem.Spec PyProof.Rows
open L2
/-- a chain of and, or: the written list, and the nested reading -/
inductive SB (X : Cx) (G : Ctx) (W : WX) (cf : CF) (io : Bool) (op : BoolOp) : List Expr → E → Prop
  | one {e : Expr} {r : E} : SE' X G W cf io e r → SB X G W cf io op [e] r
  | more {e : Expr} {r : E} {es : List Expr} {rs : E} : SE' X G W cf io e r → SB X G W cf io op es rs → SB X G W cf io op (e :: es) (match op with | .And => .and r rs | .Or => .or r rs)

section
variable {X : Cx} {G : Ctx} {W : WX} {cf : CF} {io : Bool} {a b c e : Expr} {r r1 r2 r3 : E} {pos p p2 p3 : Pos}

/-! ### and, or, not, if-else -/
theorem evE_and {fr : Fr} : evE cf io (.and r1 r2) fr = Res.bind (evE cf io r1 fr) fun (f, s) => Res.bind (toB s) fun t => if t then evE cf io r2 f else .ok (f, vB false) := by rw [evE]
theorem evE_or {fr : Fr} : evE cf io (.or r1 r2) fr = Res.bind (evE cf io r1 fr) fun (f, s) => Res.bind (toB s) fun t => if t then .ok (f, vB true) else evE cf io r2 f := by rw [evE]
theorem evE_not {fr : Fr} : evE cf io (.not r1) fr = Res.bind (evE cf io r1 fr) fun (f, s) => Res.bind (toB s) fun t => .ok (f, vB (!t)) := by rw [evE]
theorem evE_ife {fr : Fr} : evE cf io (.ife r1 r2 r3) fr = Res.bind (evE cf io r1 fr) fun (f, s) => Res.bind (toB s) fun t => if t then evE cf io r2 f else evE cf io r3 f := by rw [evE]
theorem evB_and {fr : Fr} : evB cf io (.and r1 r2) fr = (Res.bind (evE cf io r1 fr) fun (f, s) => Res.bind (toB s) fun t => if t then evB cf io r2 f else .ok (f, false)) := by
  unfold evB; rw [evE_and]
  cases evE cf io r1 fr with
  | stuck => rfl
  | raise c => rfl
  | ok p =>
    obtain ⟨f, s⟩ := p
    simp only [Res.bind_ok]
    cases toB s with
    | stuck => rfl
    | raise c => rfl
    | ok t => cases t <;> rfl
theorem evB_or {fr : Fr} : evB cf io (.or r1 r2) fr = (Res.bind (evE cf io r1 fr) fun (f, s) => Res.bind (toB s) fun t => if t then .ok (f, true) else evB cf io r2 f) := by
  unfold evB; rw [evE_or]
  cases evE cf io r1 fr with
  | stuck => rfl
  | raise c => rfl
  | ok p =>
    obtain ⟨f, s⟩ := p
    simp only [Res.bind_ok]
    cases toB s with
    | stuck => rfl
    | raise c => rfl
    | ok t => cases t <;> rfl
theorem evB_not {fr : Fr} : evB cf io (.not r1) fr = (Res.bind (evE cf io r1 fr) fun (f, s) => Res.bind (toB s) fun t => .ok (f, !t)) := by
  unfold evB; rw [evE_not]
  cases evE cf io r1 fr with
  | stuck => rfl
  | raise c => rfl
  | ok p =>
    obtain ⟨f, s⟩ := p
    simp only [Res.bind_ok]
    cases toB s with
    | stuck => rfl
    | raise c => rfl
    | ok t => cases t <;> rfl
theorem evB_ife {fr : Fr} : evB cf io (.ife r1 r2 r3) fr = (Res.bind (evE cf io r1 fr) fun (f, s) => Res.bind (toB s) fun t => if t then evB cf io r2 f else evB cf io r3 f) := by
  unfold evB; rw [evE_ife]
  cases evE cf io r1 fr with
  | stuck => rfl
  | raise c => rfl
  | ok p =>
    obtain ⟨f, s⟩ := p
    simp only [Res.bind_ok]
    cases toB s with
    | stuck => rfl
    | raise c => rfl
    | ok t => cases t <;> rfl
theorem toB_inv {s : SV} {t : Bool} (h : toB s = .ok t) : s = vB t := by
  unfold toB at h; split at h <;> cases h; rfl
/-- a first part that must be a truth value -/
theorem split1 {k : Fr → Bool → Res (Fr × SV)} {σ : L2.St} {H : Hp} {Q : VK} (h : tE G W (fun fr => Res.bind (evE cf io r1 fr) fun (f, s) => Res.bind (toB s) fun t => k f t) σ H Q) :
    tE G W (evE cf io r1) σ H fun x H1 => ∃ t, x = .bl t ∧ tE G W (fun f => k f t) σ H1 Q := by
  obtain ⟨F, fr, ts, hF, h⟩ := h
  refine ⟨F, fr, ts, hF, ?_⟩
  cases q : evE cf io r1 fr with
  | stuck => simp only [q] at h; exact h
  | raise c => simp only [q] at h; exact h
  | ok p =>
    obtain ⟨f, s⟩ := p
    simp only [q, Res.bind_ok] at h
    cases q2 : toB s with
    | stuck => simp only [q2] at h; exact h.elim
    | raise c => unfold toB at q2; split at q2 <;> cases q2
    | ok t =>
      obtain rfl := toB_inv q2
      simp only [q2, Res.bind_ok] at h
      rintro v F1 H1 s1 ⟨hd, g1⟩
      cases hd
      refine ⟨t, rfl, F1, f, ts, g1, ?_⟩
      dsimp only at h ⊢
      cases q3 : k f t with
      | stuck => simp only [q3] at h
      | raise c => simp only [q3] at h ⊢; exact h
      | ok p2 => simp only [q3] at h ⊢; exact okE.weak h s1
theorem split1T {k : Fr → Bool → Res (Fr × Bool)} {σ : L2.St} {H : Hp} {Q : Bool → Hp → Prop} (h : tT G W (fun fr => Res.bind (evE cf io r1 fr) fun (f, s) => Res.bind (toB s) fun t => k f t) σ H Q) :
    tT G W (evB cf io r1) σ H fun t H1 => tT G W (fun f => k f t) σ H1 Q := by
  obtain ⟨F, fr, ts, hF, h⟩ := h
  refine ⟨F, fr, ts, hF, ?_⟩
  unfold evB
  cases q : evE cf io r1 fr with
  | stuck => simp only [q] at h; exact h
  | raise c => simp only [q] at h; exact h
  | ok p =>
    obtain ⟨f, s⟩ := p
    simp only [q, Res.bind_ok] at h ⊢
    cases q2 : toB s with
    | stuck => simp only [q2] at h; exact h.elim
    | raise c => unfold toB at q2; split at q2 <;> cases q2
    | ok t =>
      simp only [q2, Res.bind_ok] at h ⊢
      intro F1 H1 s1 g1
      refine ⟨F1, f, ts, g1, ?_⟩
      dsimp only at h ⊢
      cases q3 : k f t with
      | stuck => simp only [q3] at h
      | raise c => simp only [q3] at h ⊢; exact h
      | ok p2 => simp only [q3] at h ⊢; exact fun F' H' s2 g2 => h F' H' (s1.trans s2) g2
theorem tE_congr {r r' : Fr → Res (Fr × SV)} (e : ∀ fr, r fr = r' fr) {σ : L2.St} {H : Hp} {Q : VK} (h : tE G W r σ H Q) : tE G W r' σ H Q := by
  have : r = r' := funext e
  rw [← this]; exact h
theorem tT_congr {r r' : Fr → Res (Fr × Bool)} (e : ∀ fr, r fr = r' fr) {σ : L2.St} {H : Hp} {Q : Bool → Hp → Prop} (h : tT G W r σ H Q) : tT G W r' σ H Q := by
  have : r = r' := funext e
  rw [← this]; exact h
theorem tE_ok {f : Fr → Fr × SV} {b : Bool} {σ : L2.St} {H : Hp} {Q : VK} (h : tE G W (fun fr => .ok (fr, vB b)) σ H Q) : Q (.bl b) H := by
  obtain ⟨F, fr, ts, hF, h⟩ := h
  exact h _ F H (Same.refl _) ⟨.bl b, hF⟩
theorem tT_ok {b : Bool} {σ : L2.St} {H : Hp} {Q : Bool → Hp → Prop} (h : tT G W (fun fr => .ok (fr, b)) σ H Q) : Q b H := by
  obtain ⟨F, fr, ts, hF, h⟩ := h
  exact h F H (Same.refl _) hF
theorem sb_ne {op : BoolOp} {es : List Expr} {r : E} (h : SB X G W cf io op es r) : ∃ f fs, es = f :: fs := by cases h <;> exact ⟨_, _, rfl⟩
theorem sb_and : ∀ {es : List Expr} {r : E}, SB X G W cf io .And es r → PE X (.BoolOp .And es pos) (tE G W (evE cf io r)) ∧ PW X (.BoolOp .And es pos) (tT G W (evB cf io r))
  | _, _, .one h => ⟨pe_one h.pe, pw_and1 h.pt⟩
  | _, _, .more (es := es) (rs := rs) h t => by
    obtain ⟨f, fs, rfl⟩ := sb_ne t
    obtain ⟨h1, h2⟩ := sb_and t
    refine ⟨PE.imp (pe_and h.pe h1) fun σ H Q hq => ?_, PW.imp (pw_and h.pt h2) fun σ H Q hq => ?_⟩
    · have q := split1 (k := fun f t => if t then evE cf io rs f else .ok (f, vB false)) (tE_congr (fun fr => evE_and) hq)
      obtain ⟨F, fr, ts, hF, q⟩ := q
      refine ⟨F, fr, ts, hF, ?_⟩
      split at q
      · intro v F1 H1 s1 hs
        obtain ⟨t, rfl, q⟩ := q v F1 H1 s1 hs
        refine ⟨t, rfl, ?_⟩
        cases t with
        | true => rw [if_pos rfl]; exact q
        | false => rw [if_neg Bool.false_ne_true]; exact tE_ok (f := fun f => (f, vB false)) q
      · exact q
      · exact q
    · have q := split1T (k := fun f t => if t then evB cf io rs f else .ok (f, false)) (tT_congr (fun fr => evB_and) hq)
      obtain ⟨F, fr, ts, hF, q⟩ := q
      refine ⟨F, fr, ts, hF, ?_⟩
      split at q
      · rename_i t _
        intro F1 H1 s1 g1
        have q := q F1 H1 s1 g1
        cases t with
        | true => rw [if_pos rfl]; exact q
        | false => rw [if_neg Bool.false_ne_true]; exact tT_ok q
      · exact q
      · exact q
theorem sb_or : ∀ {es : List Expr} {r : E}, SB X G W cf io .Or es r → PE X (.BoolOp .Or es pos) (tE G W (evE cf io r)) ∧ PW X (.BoolOp .Or es pos) (tT G W (evB cf io r))
  | _, _, .one h => ⟨pe_one h.pe, pw_or1 h.pt⟩
  | _, _, .more (es := es) (rs := rs) h t => by
    obtain ⟨f, fs, rfl⟩ := sb_ne t
    obtain ⟨h1, h2⟩ := sb_or t
    refine ⟨PE.imp (pe_or h.pe h1) fun σ H Q hq => ?_, PW.imp (pw_or h.pt h2) fun σ H Q hq => ?_⟩
    · have q := split1 (k := fun f t => if t then .ok (f, vB true) else evE cf io rs f) (tE_congr (fun fr => evE_or) hq)
      obtain ⟨F, fr, ts, hF, q⟩ := q
      refine ⟨F, fr, ts, hF, ?_⟩
      split at q
      · intro v F1 H1 s1 hs
        obtain ⟨t, rfl, q⟩ := q v F1 H1 s1 hs
        refine ⟨t, rfl, ?_⟩
        cases t with
        | true => rw [if_pos rfl]; exact tE_ok (f := fun f => (f, vB true)) q
        | false => rw [if_neg Bool.false_ne_true]; exact q
      · exact q
      · exact q
    · have q := split1T (k := fun f t => if t then .ok (f, true) else evB cf io rs f) (tT_congr (fun fr => evB_or) hq)
      obtain ⟨F, fr, ts, hF, q⟩ := q
      refine ⟨F, fr, ts, hF, ?_⟩
      split at q
      · rename_i t _
        intro F1 H1 s1 g1
        have q := q F1 H1 s1 g1
        cases t with
        | true => rw [if_pos rfl]; exact tT_ok q
        | false => rw [if_neg Bool.false_ne_true]; exact q
      · exact q
      · exact q
theorem se_boolop {op : BoolOp} {e f : Expr} {es : List Expr} {r : E} (h : SB X G W cf io op (e :: f :: es) r) : SE' X G W cf io (.BoolOp op (e :: f :: es) pos) r := by
  have hv : isVar r = none := by cases h; cases op <;> rfl
  cases op with
  | And => exact { ns := fun _ _ => rfl, pe := (sb_and h).1, pt := (sb_and h).2.pt, po := po_of hv (sb_and h).1, k := rfl }
  | Or => exact { ns := fun _ _ => rfl, pe := (sb_or h).1, pt := (sb_or h).2.pt, po := po_of hv (sb_or h).1, k := rfl }
theorem se_not (h : SE X G W cf io a r1) : SE' X G W cf io (.UnaryOp .Not a pos) (.not r1) := by
  have pe : PE X (.UnaryOp .Not a pos) (tE G W (evE cf io (.not r1))) := by
    refine PE.imp (pe_not h.pe) fun σ H Q hq => ?_
    have q := split1 (k := fun f t => .ok (f, vB (!t))) (tE_congr (fun fr => evE_not) hq)
    obtain ⟨F, fr, ts, hF, q⟩ := q
    refine ⟨F, fr, ts, hF, ?_⟩
    split at q
    · intro v F1 H1 s1 hs
      obtain ⟨t, rfl, q⟩ := q v F1 H1 s1 hs
      exact ⟨t, rfl, tE_ok (f := fun f => (f, vB (!t))) q⟩
    · exact q
    · exact q
  refine { ns := fun _ _ => rfl, pe := pe, pt := PT.imp (pt_not h.pt) fun σ H Q hq => ?_, po := po_of rfl pe, k := rfl }
  have q := split1T (k := fun f t => .ok (f, !t)) (tT_congr (fun fr => evB_not) hq)
  obtain ⟨F, fr, ts, hF, q⟩ := q
  refine ⟨F, fr, ts, hF, ?_⟩
  split at q
  · intro F1 H1 s1 g1
    exact tT_ok (q F1 H1 s1 g1)
  · exact q
  · exact q
theorem pt_ifExp {c a b : Expr} {tc ta tb : TT} (hc : PT X c tc) (ha : PT X a ta) (hb : PT X b tb) : PT X (.IfExp c a b pos) (fun σ H Q => tc σ H fun k H1 => if k = true then ta σ H1 Q else tb σ H1 Q) := by
  refine ⟨fun pins s σ H Q I h => ?_⟩
  refine isTrue_IfExp (thn (hc.run pins s σ H _ I h) fun d s1 ⟨H1, I1, q1⟩ => ?_)
  cases d with
  | true => exact ha.run pins s1 σ H1 Q I1 q1
  | false => exact hb.run pins s1 σ H1 Q I1 q1
theorem se_ife (hc : SE X G W cf io c r1) (ha : SE X G W cf io a r2) (hb : SE X G W cf io b r3) : SE' X G W cf io (.IfExp c a b pos) (.ife r1 r2 r3) := by
  have pe : PE X (.IfExp c a b pos) (tE G W (evE cf io (.ife r1 r2 r3))) := by
    refine PE.imp (pe_ifExp hc.pt ha.pe hb.pe) fun σ H Q hq => ?_
    obtain ⟨F, fr, ts, hF, q⟩ := hq
    refine ⟨F, fr, ts, hF, ?_⟩
    rw [evE_ife] at q
    unfold evB
    cases q1 : evE cf io r1 fr with
    | stuck => rw [q1] at q; exact q
    | raise c => rw [q1] at q; exact q
    | ok p =>
      obtain ⟨f, s⟩ := p
      rw [q1] at q
      simp only [Res.bind_ok] at q ⊢
      cases q2 : toB s with
      | stuck => rw [q2] at q; exact q.elim
      | raise c => unfold toB at q2; split at q2 <;> cases q2
      | ok t =>
        rw [q2] at q
        simp only [Res.bind_ok] at q ⊢
        intro F1 H1 s1 g1
        cases t with
        | true =>
          rw [if_pos rfl] at q ⊢
          refine ⟨F1, f, ts, g1, ?_⟩
          cases q3 : evE cf io r2 f with
          | stuck => rw [q3] at q; exact q
          | raise c => rw [q3] at q; exact q
          | ok p2 => rw [q3] at q; exact okE.weak q s1
        | false =>
          rw [if_neg Bool.false_ne_true] at q ⊢
          refine ⟨F1, f, ts, g1, ?_⟩
          cases q3 : evE cf io r3 f with
          | stuck => rw [q3] at q; exact q
          | raise c => rw [q3] at q; exact q
          | ok p2 => rw [q3] at q; exact okE.weak q s1
  refine { ns := fun _ _ => rfl, pe := pe, pt := PT.imp (pt_ifExp hc.pt ha.pt hb.pt) fun σ H Q hq => ?_, po := po_of rfl pe, k := rfl }
  have q := split1T (k := fun f t => if t then evB cf io r2 f else evB cf io r3 f) (tT_congr (fun fr => evB_ife) hq)
  obtain ⟨F, fr, ts, hF, q⟩ := q
  refine ⟨F, fr, ts, hF, ?_⟩
  split at q
  · rename_i t _
    intro F1 H1 s1 g1
    have q := q F1 H1 s1 g1
    cases t with
    | true => rw [if_pos rfl]; exact q
    | false => rw [if_neg Bool.false_ne_true]; exact q
  · exact q
  · exact q

/-! ### list(range(..)) -/
theorem rg_dp {K : PySem.W.Frag} {F : Hp} (i : Int) : ∀ n : Nat, ∀ l : List Nat, DpAll K F (l.map fun (k : Nat) => V.int (i + k)) (l.map fun (k : Nat) => PyData.int (i + k))
  | _, [] => .nil
  | n, k :: l => .cons (.int _) (rg_dp i n l)
theorem listRangeS_inv {ds : List D} {sv : SV} (h : listRangeS ds = some sv) : (∃ j, ds = [.int j] ∧ 0 ≤ j ∧ j ≤ 16777216 ∧ sv = own ((List.range j.toNat).map fun (i : Nat) => .int i)) ∨
    ∃ i j, ds = [.int i, .int j] ∧ 0 ≤ i ∧ i ≤ 16777216 ∧ 0 ≤ j ∧ j ≤ 16777216 ∧ sv = own ((List.range (j - i).toNat).map fun (k : Nat) => .int (i + k)) := by
  unfold listRangeS at h
  split at h
  · split at h
    · rename_i q; cases h; exact .inl ⟨_, rfl, q.1, q.2, rfl⟩
    · cases h
  · split at h
    · rename_i q; cases h; exact .inr ⟨_, _, rfl, q.1, q.2.1, q.2.2.1, q.2.2.2, rfl⟩
    · cases h
  · cases h
theorem se_listRg1 (R : Rdy X G W io) {p4 : Pos} (hg : Gl X "list") (hm : X.mg "list" = none) (hg2 : Gl X "range") (hm2 : X.mg "range" = none) (h : SE' X G W cf io a r1) :
    SE' X G W cf io (.Call (.Name "list" p) [.Call (.Name "range" p2) [a] [] p3] [] pos) (.op .listRange (.cons r1 .nil)) := by
  refine se_by' rfl rfl (pe_listRg R.hc hg hm (prg_1 hg2 hm2 h.po (ns_okx h.k _ _)) rfl) (fun _ => rfl) fun σ H Q hq => ?_
  refine tO_imp (imp1 σ H Q hq) fun v H1 ⟨σ', F, fr, ts, ds, sv, hF, hr, ho, hq⟩ => ?_
  rcases listRangeS_inv ho with ⟨j, rfl, h1, h2, rfl⟩ | ⟨i, j, rfl, _⟩
  · obtain ⟨_, e, hd⟩ := hr.one
    cases e
    cases rd_int hd
    refine ⟨j, rfl, ⟨by omega, by omega, by omega, by omega, by omega⟩, fun q nq => ?_⟩
    have e : rgV 0 j = (List.range j.toNat).map fun (k : Nat) => V.int (0 + k) := by unfold rgV; rw [Int.sub_zero]
    rw [e]
    have e2 : ((List.range j.toNat).map fun (i : Nat) => PyData.int i) = (List.range j.toNat).map fun (k : Nat) => PyData.int (0 + k) := by simp
    rw [e2] at hq
    exact hq.giveL hF nq (rg_dp 0 0 _)
  · have := hr.len; simp at this
theorem se_listRg2 (R : Rdy X G W io) {p4 : Pos} (hg : Gl X "list") (hm : X.mg "list" = none) (hg2 : Gl X "range") (hm2 : X.mg "range" = none) (h : SE' X G W cf io a r1) (h2 : SE' X G W cf io b r2) :
    SE' X G W cf io (.Call (.Name "list" p) [.Call (.Name "range" p2) [a, b] [] p3] [] pos) (.op .listRange (.cons r1 (.cons r2 .nil))) := by
  refine se_by' rfl rfl (pe_listRg R.hc hg hm (prg_2 hg2 hm2 h.po h2.po (ns_okx h.k _ _) (ns_okx h2.k _ _) (any_false fun y hy => by cases hy with | head => exact h2.k | tail _ t => cases t)) rfl) (fun _ => rfl) fun σ H Q hq => ?_
  refine tO_imp (imp2 (o := .listRange) σ H Q hq) fun v H1 q => tO_imp q fun w H2 ⟨σ', F, fr, ts, ds, sv, hF, hr, ho, hq⟩ => ?_
  rcases listRangeS_inv ho with ⟨j, rfl, _⟩ | ⟨i, j, rfl, h1, h2, h3, h4, rfl⟩
  · have := hr.len; simp at this
  · obtain ⟨_, _, e, hd1, hd2⟩ := hr.two
    cases e
    cases rd_int hd1
    cases rd_int hd2
    exact ⟨i, j, rfl, rfl, ⟨by omega, by omega, by omega, by omega, by omega⟩, fun q nq => hq.giveL hF nq (rg_dp i 0 _)⟩
end
end PP

namespace PP
open PySem PySem.Spec PyProof.Rows
open L2

/-! ### what a def promises -/
def ArgsOk (K : PySem.W.Frag) (F H : Hp) : Bool → List V → List SV → Option Addr → Prop
  | false, vs, args, ia => ia = none ∧ ∃ ds : List D, args = ds.map .val ∧ DpAll K F vs ds
  | true, vs, args, ia => ∃ a ws d, ∃ ds : List D, vs = .ref a :: ws ∧ args = .own d :: ds.map .val ∧ ia = some a ∧ F a = none ∧ Cell K F H a d ∧ DpAll K F ws ds
def ResOk (K : PySem.W.Frag) (F' H' H : Hp) (v : V) : SV → Prop
  | .val d => Dp K F' v d
  | .own d => ∃ p, v = .ref p ∧ F' p = none ∧ Nw H p ∧ Cell K F' H' p d
structure PostOk (K : PySem.W.Frag) (T : List (Addr × Str)) (ia : Option Addr) (F H : Hp) (v : V) (r : SV) (w : Option SV) (F' H' : Hp) : Prop where
  sF : Same F F'
  sub : Same F' H'
  kp : ∀ b o, H b = some o → Nt o → ia ≠ some b → H' b = some o
  nw : ∀ b o, F' b = some o → F b = some o ∨ Nw H b
  tb : LamX.Tabs T H'
  fnt : ∀ b o, F' b = some o → Nt o
  res : ResOk K F' H' H v r
  ioc : ∀ a, ia = some a → ∃ d', w = some (.own d') ∧ F' a = none ∧ Cell K F' H' a d'
/-- j, called with args, answers as cf says -/
def spF (K : PySem.W.Frag) (mg : Str → Option Value) (T : List (Addr × Str)) (cf : CF) (j np : Nat) (io : Bool) : Sp := fun vs H Q E =>
  vs.length = np ∧ ∃ F args ia, Same F H ∧ LamX.Tabs T H ∧ (∀ b o, F b = some o → Nt o) ∧ ArgsOk K F H io vs args ia ∧ match cf j args with
    | .ok (r, w) => ∀ v F' H', PostOk K T ia F H v r w F' H' → Q v H'
    | .raise c => ∀ (H' : Hp) (d : Option Addr) (u : Value), (∀ b o, H b = some o → Nt o → ia ≠ some b → H' b = some o) → LamX.Tabs T H' → mg c = some u → E u d H'
    | .stuck => False

section
variable {G : Ctx} {σ : L2.St} {F F' H H' : Hp} {fr : Fr} {ts : List (Addr × D)}
theorem FOk.far (h : FOk G σ F H fr ts) {p : Addr} (n : Nw H p) : Nw G.H0 p ∧ G.io ≠ some p ∧ (∀ q ∈ ts, q.1 ≠ p) ∧ ∀ j d, getS fr j = some (.own d) → σ[j]? ≠ some (some (.ref p)) := by
  have nc : ∀ {a d}, Owned G F H a d → a ≠ p := fun {a d} ho z => by
    obtain ⟨vs, e⟩ := ho.2.2.lst
    rw [z] at e
    exact n _ e nt_lst
  have hio : G.io ≠ some p := fun e => by
    obtain ⟨d, hd⟩ := h.ioc p e
    obtain ⟨a, ha, ho⟩ := h.own_at hd
    have hp := h.pin p e
    rw [ha] at hp; cases hp
    exact nc ho rfl
  refine ⟨fun o e t => n o (h.keep p o e t hio) t, hio, fun q hq => nc (h.tmp q hq), fun j d hj z => ?_⟩
  obtain ⟨a, ha, ho⟩ := h.own_at hj
  rw [ha] at z; cases z
  exact nc ho rfl
/-- an object becomes a temp -/
theorem FOk.temp (h : FOk G σ F H fr ts) {p : Addr} {d : D} (hF : F p = none) (c : Cell G.K F H p d) (n0 : Nw G.H0 p) (nio : G.io ≠ some p) (nt : ∀ q ∈ ts, q.1 ≠ p) (ns : ∀ j d, getS fr j = some (.own d) → σ[j]? ≠ some (some (.ref p))) :
    FOk G σ F H fr ((p, d) :: ts) := by
  refine ⟨h.len, h.slot, h.inj, fun q hq => ?_, ?_, fun q hq j e hj => ?_, h.sub, h.base, h.keep, h.new, h.pin, fun q hq => ?_, h.ioc, h.ios, h.tab, h.fnt⟩
  · rcases List.mem_cons.mp hq with rfl | hq
    · exact ⟨hF, .inl n0, c⟩
    · exact h.tmp q hq
  · rw [List.map_cons, List.nodup_cons]
    refine ⟨fun hm => ?_, h.tnd⟩
    obtain ⟨q, hq, e⟩ := List.mem_map.mp hm
    exact nt q hq e
  · rcases List.mem_cons.mp hq with rfl | hq
    · exact ns j e hj
    · exact h.dj q hq j e hj
  · rcases List.mem_cons.mp hq with rfl | hq
    · exact nio
    · exact h.tio q hq
/-- behind a call that was handed the slot i's object -/
theorem FOk.afterIo (h : FOk G σ F H fr ts) {i : Nat} {o d' : D} {a : Addr} (e : getS fr i = some (.own o)) (ha : σ[i]? = some (some (.ref a))) (sF : Same F F') (sub : Same F' H') (kp : ∀ b o, H b = some o → Nt o → b ≠ a → H' b = some o)
    (nw : ∀ b o, F' b = some o → F b = some o ∨ Nw H b) (tb : LamX.Tabs G.T H') (fn : ∀ b o, F' b = some o → Nt o) (hFa : F' a = none) (hc : Cell G.K F' H' a d') : FOk G σ F' H' (fr.set i (some (.own d'))) ts := by
  obtain ⟨a', ha', ho0⟩ := h.own_at e
  obtain rfl : a' = a := by rw [ha] at ha'; cases ha'; rfl
  have hl : i < fr.length := getS_lt e
  have ow : ∀ {b d}, b ≠ a' → Owned G F H b d → Owned G F' H' b d := fun {b d} hb ho => by
    obtain ⟨vs, w⟩ := ho.2.2.lst
    refine ⟨?_, ho.2.1, (ho.2.2.monoF sF).at fun o e => kp b o e (by rw [w] at e; cases e; exact nt_lst) hb⟩
    cases q : F' b with
    | none => rfl
    | some o =>
      rcases nw b o q with z | z
      · rw [ho.1] at z; cases z
      · exact (z _ w nt_lst).elim
  have back : ∀ j s, getS (fr.set i (some (.own d'))) j = some (.own s) → ∃ s', getS fr j = some (.own s') := fun j s q => by
    by_cases hj : i = j
    · subst hj; exact ⟨o, e⟩
    · rw [getS_set_ne hj] at q; exact ⟨s, q⟩
  refine ⟨by rw [List.length_set]; exact h.len, fun j s q => ?_, fun j k b d1 e1 q1 q2 q3 q4 => ?_, fun p hp => ow (fun w => h.dj p hp i o e (by rw [w]; exact ha)) (h.tmp p hp), h.tnd, fun p hp j d1 q => ?_, sub, h.base.trans sF, fun b u q t z => ?_, fun b u q => ?_, h.pin, h.tio, fun b z => ?_, fun j d1 b q q2 z => ?_, tb, fn⟩
  · by_cases hj : i = j
    · subst hj
      rw [getS_set_self hl] at q; cases q
      exact ⟨_, ha, a', rfl, hFa, ho0.2.1, hc⟩
    · rw [getS_set_ne hj] at q
      obtain ⟨v, h1, h2⟩ := h.slot j s q
      refine ⟨v, h1, ?_⟩
      cases s with
      | val d => exact L2.Dp.mono sF h2
      | own d1 =>
        obtain ⟨b, rfl, ho⟩ := h2
        exact ⟨b, rfl, ow (h.apart q e h1 ha (Ne.symm hj)) ho⟩
  · obtain ⟨_, q1⟩ := back j _ q1
    obtain ⟨_, q2⟩ := back k _ q2
    exact h.inj j k b _ _ q1 q2 q3 q4
  · obtain ⟨_, q⟩ := back j _ q
    exact h.dj p hp j _ q
  · refine kp b u (h.keep b u q t z) t (fun w => ?_)
    subst w
    rcases ho0.2.1 with w | w
    · exact w u q t
    · exact z w
  · rcases nw b u q with z | z
    · exact h.new b u z
    · exact .inr (h.far z).1
  · by_cases hj : i = 0
    · subst hj; exact ⟨_, getS_set_self hl⟩
    · obtain ⟨d1, q⟩ := h.ioc b z
      exact ⟨d1, by rw [getS_set_ne hj]; exact q⟩
  · obtain ⟨d2, q⟩ := back j _ q
    exact h.ios j d2 b q q2 z
end

/-- a def at hand -/
structure Fc (X : Cx) (T : List (Addr × Str)) (cf : CF) (j : Nat) (x : Str) (np : Nat) (io : Bool) : Prop where
  ex : ∃ f fd ps k, FnOk X.prog X.w X.K X.mg X.base (L2.CX X.prog X.w) k f fd ps (spF X.K X.mg T cf j np io) ∧ Room k X.A ∧ X.mg x = some (.ref f) ∧ PySem.W.keepIn X.K (.ref f) = true ∧ Binds X.K fd ps []
  gl : Gl X x
  db : (x == ("__debug__" : Str)) = false

section
variable {X : Cx} {G : Ctx} {W : WX} {cf : CF} {io : Bool} {a b c e : Expr} {r r1 r2 r3 : E} {pos p p2 p3 : Pos}
theorem evE_call {k : Nat} {es : Es} {fr : Fr} : evE cf io (.call k es) fr = Res.bind (evL cf io false es fr) fun (f, as) => Res.bind (.ofOpt (frzs as)) fun ds => Res.bind (cf k (ds.map .val)) fun (r, _) => .ok (f, r) := by rw [evE]
theorem evE_callio {k i : Nat} {es : Es} {fr : Fr} : evE cf io (.callio k i es) fr = match getS fr i with
    | some (.own _) => Res.bind (evL cf io false es fr) fun (f, as) => Res.bind (.ofOpt (frzs as)) fun ds => match getS f i with
      | some (.own o) => Res.bind (calm (cf k (.own o :: ds.map .val))) fun (r, w) => match w with
        | some (.own o') => .ok (f.set i (some (.own o')), r)
        | _ => .stuck
      | _ => .stuck
    | _ => .stuck := by rw [evE]; first | done | rfl
theorem evL_len {b : Bool} : ∀ {rs : Es} {es : List Expr} {fr f : Fr} {as : List AV}, SEs X G W cf io es rs → evL cf io b rs fr = .ok (f, as) → as.length = es.length
  | _, _, fr, f, as, .nil, h => by rw [evL_nil] at h; cases h; rfl
  | _, _, fr, f, as, .cons hs t, h => by
    rw [evL_cons] at h
    cases q : evO cf io b _ fr with
    | stuck => rw [q] at h; cases h
    | raise c => rw [q] at h; cases h
    | ok p =>
      obtain ⟨g, a⟩ := p
      rw [q] at h
      simp only [Res.bind_ok] at h
      cases q2 : evL cf io b _ g with
      | stuck => rw [q2] at h; cases h
      | raise c => rw [q2] at h; cases h
      | ok p2 =>
        obtain ⟨g2, as2⟩ := p2
        rw [q2] at h
        simp only [Res.bind_ok] at h
        cases h
        rw [List.length_cons, List.length_cons, evL_len t q2]
theorem frzs_len : ∀ {as : List AV} {ds : List D}, frzs as = some ds → as.length = ds.length
  | [], ds, h => by simp [frzs] at h; subst h; rfl
  | .sv s :: r, ds, h => by
    simp only [frzs, Option.bind_eq_some_iff, Option.map_eq_some_iff] at h
    obtain ⟨d, _, ds', h2, rfl⟩ := h
    rw [List.length_cons, List.length_cons, frzs_len h2]
  | .bor i :: r, ds, h => by simp [frzs] at h
/-- a call of a def -/
theorem pe_callF {j np : Nat} {x : Str} {es : List Expr} {rs : Es} (R : Rdy X G W io) (C : Fc X G.T cf j x np false) (h : SEs' X G W cf io (e :: es) rs) (hn : (e :: es).length = np) :
    PE X (.Call (.Name x p) (e :: es) [] pos) (tE G W (evE cf io (.call j rs))) := by
  obtain ⟨f, fd, ps, k, hf, hr, hm, hk, hb⟩ := C.ex
  refine PE.imp (pe_callS hf hr C.gl hm hk hb (fun σ => passAt R.tk σ) (pa_of (b := false) h.plain) C.db (ns_okx (h.k e (List.mem_cons_self)) _ _) (any_false fun y hy => h.k y (List.mem_cons_of_mem _ hy))) fun σ H Q hq => ?_
  obtain ⟨F, fr, ts, hF, hq⟩ := hq
  refine ⟨F, fr, ts, hF, ?_⟩
  rw [evE_call] at hq
  cases q : evL cf io false rs fr with
  | stuck => rw [q] at hq; exact hq
  | raise c => rw [q] at hq; exact hq
  | ok p =>
    obtain ⟨g, as⟩ := p
    rw [q] at hq
    simp only [Res.bind_ok] at hq
    cases q2 : frzs as with
    | none => rw [q2] at hq; exact hq.elim
    | some ds =>
      rw [q2] at hq
      simp only [Res.bind_ok, Res.ofOpt_some] at hq
      intro vs F1 H1 t1 s1 a1 h1
      obtain ⟨F2, s2, h2, d2⟩ := frzs_spec q2 a1 h1
      rw [R.hK] at d2
      refine ⟨by rw [d2.length, ← frzs_len q2, evL_len h.plain q, hn], F2, ds.map .val, none, h2.sub, h2.tab, h2.fnt, ⟨rfl, ds, rfl, d2⟩, ?_⟩
      cases q3 : cf j (ds.map .val) with
      | stuck => rw [q3] at hq; exact hq
      | raise c =>
        rw [q3] at hq
        refine fun H' d u kp tb hu => hq H' d u (fun b o e1 e2 e3 => kp b o (h2.keep b o e1 e2 e3) e2 (by simp)) tb (by rw [R.hmg]; exact hu)
      | ok pr =>
        obtain ⟨r, w⟩ := pr
        rw [q3] at hq
        simp only [Res.bind_ok] at hq
        intro v F' H' P
        have h3 : FOk G σ F' H' g ts := h2.after P.sF P.sub (fun b o e1 e2 => P.kp b o e1 e2 (by simp)) P.nw P.tb P.fnt
        refine hq v F' H' ((s1.trans s2).trans P.sF) ?_
        have pr := P.res
        cases r with
        | val d => exact ⟨by rw [R.hK]; exact pr, h3⟩
        | own d =>
          obtain ⟨p, rfl, n1, n2, c1⟩ := pr
          obtain ⟨f1, f2, f3, f4⟩ := h2.far n2
          exact ⟨p, rfl, h3.temp n1 (by rw [R.hK]; exact c1) f1 f2 f3 f4⟩
theorem se_call {j np : Nat} {x : Str} {es : List Expr} {rs : Es} (R : Rdy X G W io) (C : Fc X G.T cf j x np false) (h : SEs' X G W cf io (e :: es) rs) (hn : (e :: es).length = np) : SE' X G W cf io (.Call (.Name x p) (e :: es) [] pos) (.call j rs) :=
  se_by' rfl rfl (pe_callF R C h hn) (fun _ => rfl) fun _ _ _ hq => hq
/-- a call of a def that is handed the object of slot i -/
theorem pe_callIo {j np i : Nat} {x y : Str} {p4 : Pos} {es : List Expr} {rs : Es} (R : Rdy X G W io) (C : Fc X G.T cf j x np true) (hv : SE X G W cf io (.Name y p4) (.var i)) (h : SEs' X G W cf io es rs) (hn : (Expr.Name y p4 :: es).length = np) :
    PE X (.Call (.Name x p) (.Name y p4 :: es) [] pos) (tE G W (evE cf io (.callio j i rs))) := by
  obtain ⟨f, fd, ps, k, hf, hr, hm, hk, hb⟩ := C.ex
  have pa : PA X (.Name y p4 :: es) (tCons (tO G W (evO cf io true (.var i))) (tL G W (evL cf io false rs))) := pa_cons hv.po (pa_of (b := false) h.plain) (hv.ns _ _)
  refine PE.imp (pe_callS hf hr C.gl hm hk hb (fun σ => passAt R.tk σ) pa C.db (hv.ns _ _) (any_false fun y hy => h.k y hy)) fun σ H Q hq => ?_
  obtain ⟨F, fr, ts, hF, hq⟩ := hq
  rw [evE_callio] at hq
  refine ⟨F, fr, ts, hF, ?_⟩
  have eO : evO cf io true (.var i) fr = (match getS fr i with | some _ => .ok (fr, AV.bor i) | none => .stuck) := rfl
  rw [eO]
  cases q0 : getS fr i with
  | none => rw [q0] at hq; exact hq
  | some s0 =>
    cases s0 with
    | val d => rw [q0] at hq; exact (show False from hq).elim
    | own d0 =>
      rw [q0] at hq
      dsimp only at hq ⊢
      intro vs0 F0 H0 t0 s0 a0 h0 v ev
      subst ev
      cases a0 with
      | bor hv0 a0 =>
        cases a0
        refine ⟨F0, fr, ts, h0, ?_⟩
        cases q : evL cf io false rs fr with
        | stuck => rw [q] at hq; exact hq
        | raise c => rw [q] at hq; exact hq
        | ok p =>
          obtain ⟨g, as⟩ := p
          rw [q] at hq
          simp only [Res.bind_ok] at hq
          cases q2 : frzs as with
          | none => rw [q2] at hq; exact hq.elim
          | some ds =>
            rw [q2] at hq
            simp only [Res.bind_ok, Res.ofOpt_some] at hq
            intro vs F1 H1 t1 s1 a1 h1
            obtain ⟨F2, s2, h2, d2⟩ := frzs_spec q2 a1 h1
            rw [R.hK] at d2
            cases q4 : getS g i with
            | none => rw [q4] at hq; exact hq.elim
            | some s4 =>
              cases s4 with
              | val d => rw [q4] at hq; exact hq.elim
              | own o =>
                rw [q4] at hq
                simp only at hq
                obtain ⟨a, ha, ho⟩ := h2.own_at q4
                rw [hv0] at ha
                cases ha
                refine ⟨by rw [List.length_cons, d2.length, ← frzs_len q2, evL_len h.plain q, ← hn, List.length_cons], F2, .own o :: ds.map .val, some a, h2.sub, h2.tab, h2.fnt, ⟨a, vs, o, ds, rfl, rfl, rfl, ho.1, by rw [← R.hK]; exact ho.2.2, d2⟩, ?_⟩
                cases q3 : cf j (.own o :: ds.map .val) with
                | stuck => rw [q3] at hq; exact hq
                | raise c => rw [q3] at hq; exact hq.elim
                | ok pr =>
                  obtain ⟨r, w⟩ := pr
                  rw [q3] at hq
                  simp only [calm, Res.bind_ok] at hq
                  intro v F' H' P
                  obtain ⟨d', rfl, n', c'⟩ := P.ioc a rfl
                  have h3 : FOk G σ F' H' (g.set i (some (.own d'))) ts := h2.afterIo q4 hv0 P.sF P.sub (fun b o e1 e2 e3 => P.kp b o e1 e2 (fun z => e3 (by injection z with z; exact z.symm))) P.nw P.tb P.fnt n' (by rw [R.hK]; exact c')
                  refine hq v F' H' (((s0.trans s1).trans s2).trans P.sF) ?_
                  have pr := P.res
                  cases r with
                  | val d => exact ⟨by rw [R.hK]; exact pr, h3⟩
                  | own d =>
                    obtain ⟨p, rfl, n1, n2, c1⟩ := pr
                    obtain ⟨f1, f2, f3, f4⟩ := h2.far n2
                    refine ⟨p, rfl, h3.temp n1 (by rw [R.hK]; exact c1) f1 f2 f3 fun k e hk => ?_⟩
                    by_cases hj : i = k
                    · subst hj; exact f4 i o q4
                    · rw [getS_set_ne hj] at hk; exact f4 k e hk
theorem se_callIo {j np i : Nat} {x y : Str} {p4 : Pos} {es : List Expr} {rs : Es} (R : Rdy X G W io) (C : Fc X G.T cf j x np true) (hv : SE X G W cf io (.Name y p4) (.var i)) (h : SEs' X G W cf io es rs) (hn : (Expr.Name y p4 :: es).length = np) :
    SE' X G W cf io (.Call (.Name x p) (.Name y p4 :: es) [] pos) (.callio j i rs) :=
  se_by' rfl rfl (pe_callIo R C hv h hn) (fun _ => rfl) fun _ _ _ hq => hq
end
end PP

namespace PP
open PySem PySem.Spec PyProof.Rows
open L2

/-! ### what loops walk -/
/-- J yields what stands for xs, over whatever grows from F -/
structure Itok (K : PySem.W.Frag) (F : Hp) (J : It) (xs : List D) : Prop where
  go : ∀ i H, i < xs.length → Same F H → J.go i H
  stop : ∀ H, Same F H → J.stop xs.length H
  yld : ∀ i d H x H1, xs[i]? = some d → Same F H → J.yld i H x H1 → (H1 = H ∧ Dp K F x d) ∨ ∃ p vs ds, H p = none ∧ H1 = upd H p (.tup vs) ∧ x = .ref p ∧ d = .tuple ds ∧ DpAll K F vs ds
theorem get_of {xs : List D} {vs : List V} {K : PySem.W.Frag} {F : Hp} (h : DpAll K F vs xs) {i : Nat} (hi : i < xs.length) : ∃ x, vs[i]? = some x := by
  have : i < vs.length := by rw [h.length]; exact hi
  exact ⟨vs[i], by simp [this]⟩
theorem itok_list {K : PySem.W.Frag} {F : Hp} {a : Addr} {vs : List V} {xs : List D} (q : SqL K F a vs) (h : DpAll K F vs xs) : Itok K F (Itl K a) xs where
  go := fun i H hi s => by
    obtain ⟨x, hx⟩ := get_of h hi
    exact ⟨vs, x, s.seq q, hx⟩
  stop := fun H s => ⟨vs, s.seq q, by rw [h.length]; exact Nat.le_refl _⟩
  yld := fun i d H x H1 e s y => by
    obtain ⟨rfl, y⟩ := y
    obtain ⟨v, hv, hd⟩ := h.get e
    have := y vs (s.seq q)
    rw [hv] at this; cases this
    exact .inl ⟨rfl, hd⟩
theorem itok_tup {K : PySem.W.Frag} {F : Hp} {a : Addr} {vs : List V} {xs : List D} (q : SqT K F a vs) (h : DpAll K F vs xs) : Itok K F (Itt K a) xs where
  go := fun i H hi s => by
    obtain ⟨x, hx⟩ := get_of h hi
    exact ⟨vs, x, s.seqT q, hx⟩
  stop := fun H s => ⟨vs, s.seqT q, by rw [h.length]; exact Nat.le_refl _⟩
  yld := fun i d H x H1 e s y => by
    obtain ⟨rfl, y⟩ := y
    obtain ⟨v, hv, hd⟩ := h.get e
    have := y vs (s.seqT q)
    rw [hv] at this; cases this
    exact .inl ⟨rfl, hd⟩
theorem itok_range {K : PySem.W.Frag} {F : Hp} {lo : Int} {n : Nat} : Itok K F (Itr lo n) ((List.range n).map fun (k : Nat) => PyData.int (lo + k)) where
  go := fun i H hi s => (by simpa using hi : i < n)
  stop := fun H s => by simp [Itr]
  yld := fun i d H x H1 e s y => by
    obtain ⟨rfl, rfl⟩ := y
    rw [List.getElem?_map] at e
    cases q : (List.range n)[i]? with
    | none => rw [q] at e; cases e
    | some k =>
      rw [q] at e
      obtain ⟨h1, h2⟩ := List.getElem?_eq_some_iff.mp q
      rw [List.getElem_range] at h2
      subst h2
      cases e
      exact .inl ⟨rfl, .int _⟩
theorem enumP_get {xs : List D} {i : Nat} {d : D} (e : (enumP xs)[i]? = some d) : ∃ y, xs[i]? = some y ∧ d = .tuple [.int i, y] := by
  unfold enumP at e
  rw [List.getElem?_map, List.getElem?_zipIdx] at e
  cases q : xs[i]? with
  | none => rw [q] at e; cases e
  | some y =>
    rw [q] at e
    simp at e
    exact ⟨y, rfl, e.symm⟩
theorem enumP_len (xs : List D) : (enumP xs).length = xs.length := by unfold enumP; simp
theorem itok_enum {K : PySem.W.Frag} {F : Hp} {a : Addr} {vs : List V} {xs : List D} (q : SqL K F a vs) (h : DpAll K F vs xs) : Itok K F (Ite K a) (enumP xs) where
  go := fun i H hi s => by
    rw [enumP_len] at hi
    obtain ⟨x, hx⟩ := get_of h hi
    exact ⟨vs, x, s.seq q, hx⟩
  stop := fun H s => ⟨vs, s.seq q, by rw [h.length, enumP_len]; exact Nat.le_refl _⟩
  yld := fun i d H x H1 e s y => by
    obtain ⟨T, y0, rfl, hT, rfl, y⟩ := y
    obtain ⟨d', e', rfl⟩ := enumP_get e
    obtain ⟨v, hv, hd⟩ := h.get e'
    have := y vs (s.seq q)
    rw [hv] at this; cases this
    exact .inr ⟨T, _, _, hT, rfl, rfl, rfl, .cons (.int _) (.cons hd .nil)⟩
theorem zipP_get {xs ys : List D} {i : Nat} {d : D} (e : (zipP xs ys)[i]? = some d) : ∃ x y, xs[i]? = some x ∧ ys[i]? = some y ∧ d = .tuple [x, y] := by
  unfold zipP at e
  rw [List.getElem?_map] at e
  cases q : (xs.zip ys)[i]? with
  | none => rw [q] at e; cases e
  | some p =>
    rw [q] at e
    rw [List.getElem?_zip_eq_some] at q
    simp at e
    exact ⟨_, _, q.1, q.2, e.symm⟩
theorem zipP_len (xs ys : List D) : (zipP xs ys).length = min xs.length ys.length := by unfold zipP; simp
theorem itok_zip {K : PySem.W.Frag} {F : Hp} {a b : Addr} {vs ws : List V} {xs ys : List D} (q : SqL K F a vs) (h : DpAll K F vs xs) (q2 : SqL K F b ws) (h2 : DpAll K F ws ys) : Itok K F (Itz K a b) (zipP xs ys) where
  go := fun i H hi s => by
    rw [zipP_len] at hi
    obtain ⟨x, hx⟩ := get_of h (Nat.lt_of_lt_of_le hi (Nat.min_le_left _ _))
    obtain ⟨y, hy⟩ := get_of h2 (Nat.lt_of_lt_of_le hi (Nat.min_le_right _ _))
    exact ⟨vs, ws, x, y, s.seq q, s.seq q2, hx, hy⟩
  stop := fun H s => ⟨vs, ws, s.seq q, s.seq q2, by rw [h.length, h2.length, zipP_len]; omega⟩
  yld := fun i d H x H1 e s y => by
    obtain ⟨T, x0, y0, rfl, hT, rfl, y1, y2⟩ := y
    obtain ⟨d1, d2, e1, e2, rfl⟩ := zipP_get e
    obtain ⟨v, hv, hd⟩ := h.get e1
    obtain ⟨v2, hv2, hd2⟩ := h2.get e2
    have z := y1 vs (s.seq q)
    rw [hv] at z; cases z
    have z := y2 ws (s.seq q2)
    rw [hv2] at z; cases z
    exact .inr ⟨T, _, _, hT, rfl, rfl, rfl, .cons hd (.cons hd2 .nil)⟩
theorem itok_zipT {K : PySem.W.Frag} {F : Hp} {a b : Addr} {vs ws : List V} {xs ys : List D} (q : SqT K F a vs) (h : DpAll K F vs xs) (q2 : SqT K F b ws) (h2 : DpAll K F ws ys) : Itok K F (RZ.ItzT K a b) (zipP xs ys) where
  go := fun i H hi s => by
    rw [zipP_len] at hi
    obtain ⟨x, hx⟩ := get_of h (Nat.lt_of_lt_of_le hi (Nat.min_le_left _ _))
    obtain ⟨y, hy⟩ := get_of h2 (Nat.lt_of_lt_of_le hi (Nat.min_le_right _ _))
    exact ⟨vs, ws, x, y, s.seqT q, s.seqT q2, hx, hy⟩
  stop := fun H s => ⟨vs, ws, s.seqT q, s.seqT q2, by rw [h.length, h2.length, zipP_len]; omega⟩
  yld := fun i d H x H1 e s y => by
    obtain ⟨T, x0, y0, rfl, hT, rfl, y1, y2⟩ := y
    obtain ⟨d1, d2, e1, e2, rfl⟩ := zipP_get e
    obtain ⟨v, hv, hd⟩ := h.get e1
    obtain ⟨v2, hv2, hd2⟩ := h2.get e2
    have z := y1 vs (s.seqT q)
    rw [hv] at z; cases z
    have z := y2 ws (s.seqT q2)
    rw [hv2] at z; cases z
    exact .inr ⟨T, _, _, hT, rfl, rfl, rfl, .cons hd (.cons hd2 .nil)⟩

def tI (G : Ctx) (W : WX) (r : Fr → Res (Fr × List D)) : TI := fun σ H R => ∃ F fr ts, FOk G σ F H fr ts ∧ match r fr with
  | .ok (f, xs) => ∀ (J : It) (F' H' : Hp), Same F F' → FOk G σ F' H' f ts → Itok G.K F' J xs → R J H'
  | .raise c => okX G W σ c
  | .stuck => False
theorem PI.imp {X : Cx} {tg e : Expr} {t t' : TI} (h : PI X tg e t) (i : ∀ σ H R, t' σ H R → t σ H R) : PI X tg e t' := ⟨fun pins s σ H R I hw => h.run pins s σ H R I (i _ _ _ hw)⟩

section
variable {X : Cx} {tg : Expr}
/-- a list or a tuple -/
def iSeq (K : PySem.W.Frag) (tl : TE) : TI := fun σ H R => tl σ H fun x H1 => ∃ a, x = .ref a ∧ ((∃ xs, SqL K H1 a xs) ∧ R (Itl K a) H1 ∨ (∃ xs, SqT K H1 a xs) ∧ R (Itt K a) H1)
theorem pi_seq {l : Expr} {tl : TE} (hl : PE X l tl) : PI X tg l (iSeq X.K tl) := by
  refine ⟨fun pins s σ H R I h => ?_⟩
  refine thn (hl.run pins s σ H _ I h) fun v s1 ⟨x, H1, I1, r1, q1⟩ => ?_
  obtain ⟨a, e, q1⟩ := q1
  subst e
  cases r1
  rcases q1 with ⟨⟨xs, hq⟩, q⟩ | ⟨⟨xs, hq⟩, q⟩
  · obtain ⟨its, rv, p, hz⟩ := I1.list hq
    refine wpAny_pyIter_list p.isList ?_
    refine ⟨s1.heap.objs.size, [s1.heap.objs.size], _, _, H1, rfl, I1.kept (t' := s1.toks) fun b o e => Heap.get?_push_of_some _ e, turn_list a _, ⟨_, Heap.get?_push_size _ rfl, rfl, rfl⟩, fun b hb => ?_, q⟩
    have e : b = s1.heap.objs.size := by simpa using hb
    subst e
    exact I1.fpOk (Nat.le_refl _) (I1.hok.fresh (Nat.le_refl _))
  · obtain ⟨its, rv, p, hz⟩ := I1.tuple hq
    refine wpAny_pyIter_tuple (show s1.heap.IsTuple a its.toArray from p) ?_
    refine ⟨s1.heap.objs.size, [s1.heap.objs.size], _, _, H1, rfl, I1.kept (t' := s1.toks) fun b o e => Heap.get?_push_of_some _ e, turn_tuple a _, ⟨_, Heap.get?_push_size _ rfl, rfl, rfl⟩, fun b hb => ?_, q⟩
    have e : b = s1.heap.objs.size := by simpa using hb
    subst e
    exact I1.fpOk (Nat.le_refl _) (I1.hok.fresh (Nat.le_refl _))
end
section
variable {X : Cx} {G : Ctx} {W : WX} {cf : CF} {io : Bool} {a b c e tg : Expr} {r r1 r2 r3 : E} {pos p p2 p3 : Pos}
theorem evI_ofE {e : E} {fr : Fr} : evI cf io (.ofE e) fr = Res.bind (evE cf io e fr) fun (f, s) => Res.bind (.ofOpt (frz s)) fun d => Res.bind (.ofOpt (seqP d)) fun xs => .ok (f, xs) := by rw [evI]
theorem evI_via {k : IK} {es : Es} {fr : Fr} : evI cf io (.via k es) fr = Res.bind (evL cf io false es fr) fun (f, as) => Res.bind (.ofOpt (frzs as)) fun ds => Res.bind (.ofOpt (mkIt k ds)) fun xs => .ok (f, xs) := by rw [evI]
theorem okE.frz {σ : L2.St} {F' H' : Hp} {fr : Fr} {ts : List (Addr × D)} {s : SV} {d : D} {v : V} (h : match s with
    | .val d => Dp G.K F' v d ∧ FOk G σ F' H' fr ts
    | .own d => ∃ a, v = .ref a ∧ FOk G σ F' H' fr ((a, d) :: ts)) (e : frz s = some d) : ∃ F2, Same F' F2 ∧ FOk G σ F2 H' fr ts ∧ Dp G.K F2 v d := by
  cases s with
  | val d' => simp [PP.frz] at e; subst e; exact ⟨F', Same.refl _, h.2, h.1⟩
  | own d' =>
    cases d' with
    | list xs =>
      simp [PP.frz] at e; subst e
      obtain ⟨a, rfl, h⟩ := h
      exact h.freezeT
    | _ => simp [PP.frz] at e
theorem pi_ofE (hK : G.K = X.K) (h : PE X e (tE G W (evE cf io r))) : PI X tg e (tI G W (evI cf io (.ofE r))) := by
  refine PI.imp (pi_seq h) fun σ H R hq => ?_
  obtain ⟨F, fr, ts, hF, hq⟩ := hq
  refine ⟨F, fr, ts, hF, ?_⟩
  rw [evI_ofE] at hq
  cases q : evE cf io r fr with
  | stuck => rw [q] at hq; exact hq
  | raise c => rw [q] at hq; exact hq
  | ok p =>
    obtain ⟨f, s⟩ := p
    rw [q] at hq
    simp only [Res.bind_ok] at hq
    cases q2 : frz s with
    | none => rw [q2] at hq; exact hq.elim
    | some d =>
      rw [q2] at hq
      simp only [Res.ofOpt_some, Res.bind_ok] at hq
      cases q3 : seqP d with
      | none => rw [q3] at hq; exact hq.elim
      | some xs =>
        rw [q3] at hq
        simp only [Res.ofOpt_some, Res.bind_ok] at hq
        intro v F1 H1 s1 hs
        obtain ⟨F2, s2, h2, d2⟩ := okE.frz hs q2
        rw [hK] at d2 hq
        cases d2 with
        | lst sq da =>
          simp [seqP] at q3; subst q3
          exact ⟨_, rfl, .inl ⟨⟨_, h2.sub.seq sq⟩, hq _ F2 H1 (s1.trans s2) h2 (itok_list sq da)⟩⟩
        | tup sq da =>
          simp [seqP] at q3; subst q3
          exact ⟨_, rfl, .inr ⟨⟨_, h2.sub.seqT sq⟩, hq _ F2 H1 (s1.trans s2) h2 (itok_tup sq da)⟩⟩
        | _ => simp [seqP] at q3
/-- the operands of a walked built-in -/
theorem avs_len {K : PySem.W.Frag} {F : Hp} {σ : L2.St} : ∀ {vs : List V} {as : List AV} {ts : List (Addr × D)}, AvsOk K F σ vs as ts → vs.length = as.length
  | _, _, _, .nil => rfl
  | _, _, _, .val _ t => by rw [List.length_cons, List.length_cons, avs_len t]
  | _, _, _, .own t => by rw [List.length_cons, List.length_cons, avs_len t]
  | _, _, _, .bor _ t => by rw [List.length_cons, List.length_cons, avs_len t]
theorem tA_via {k : IK} {rs : Es} {es : List Expr} (hs : SEs' X G W cf io es rs) {σ : L2.St} {H : Hp} {R : It → Hp → Prop} (h : tI G W (evI cf io (.via k rs)) σ H R) : tL G W (evL cf io false rs) σ H fun vs H1 => vs.length = es.length ∧ ∃ F fr ts ds xs, FOk G σ F H1 fr ts ∧ DpAll G.K F vs ds ∧ mkIt k ds = some xs ∧
    ∀ (J : It) (F' H' : Hp), Same F F' → FOk G σ F' H' fr ts → Itok G.K F' J xs → R J H' := by
  obtain ⟨F, fr, ts, hF, hq⟩ := h
  refine ⟨F, fr, ts, hF, ?_⟩
  rw [evI_via] at hq
  cases q : evL cf io false rs fr with
  | stuck => rw [q] at hq; exact hq
  | raise c => rw [q] at hq; exact hq
  | ok p =>
    obtain ⟨f, as⟩ := p
    rw [q] at hq
    simp only [Res.bind_ok] at hq
    cases q2 : frzs as with
    | none => rw [q2] at hq; exact hq.elim
    | some ds =>
      rw [q2] at hq
      simp only [Res.bind_ok, Res.ofOpt_some] at hq
      cases q3 : mkIt k ds with
      | none => rw [q3] at hq; exact hq.elim
      | some xs =>
        rw [q3] at hq
        simp only [Res.bind_ok, Res.ofOpt_some] at hq
        intro vs F1 H1 t1 s1 a1 h1
        obtain ⟨F2, s2, h2, d2⟩ := frzs_spec q2 a1 h1
        exact ⟨by rw [avs_len a1, evL_len hs.plain q], F2, f, ts, ds, xs, h2, d2, q3, fun J F' H' s3 h3 i3 => hq J F' H' ((s1.trans s2).trans s3) h3 i3⟩
theorem mkRange_inv {ds : List D} {xs : List D} (h : mkRange ds = some xs) : (∃ j : Int, ds = [.int j] ∧ -(2 ^ 62) ≤ j ∧ j < 2 ^ 62 ∧ xs = (List.range j.toNat).map fun (k : Nat) => PyData.int (0 + k)) ∨
    ∃ i j : Int, ds = [.int i, .int j] ∧ (-(2 ^ 62) ≤ i ∧ i < 2 ^ 62 ∧ -(2 ^ 62) ≤ j ∧ j < 2 ^ 62) ∧ xs = (List.range (j - i).toNat).map fun (k : Nat) => PyData.int (i + k) := by
  unfold mkRange at h
  split at h
  · rename_i j
    split at h
    · rename_i c
      cases h
      exact .inl ⟨j, rfl, by omega, by omega, by simp⟩
    · split at h
      · rename_i c
        cases h
        have : j.toNat = 0 := by omega
        exact .inl ⟨j, rfl, by omega, by omega, by rw [this]; rfl⟩
      · cases h
  · rename_i i j
    split at h
    · rename_i c
      cases h
      exact .inr ⟨i, j, rfl, ⟨by omega, by omega, by omega, by omega⟩, rfl⟩
    · cases h
  · cases h
/-- behind the operands -/
theorem tL_via {k : IK} {rs : Es} {es : List Expr} (hs : SEs' X G W cf io es rs) {σ : L2.St} {H : Hp} {R : It → Hp → Prop} {Q : List V → Hp → Prop} (h : tI G W (evI cf io (.via k rs)) σ H R)
    (i : ∀ vs H1 F fr ts ds xs, vs.length = es.length → FOk G σ F H1 fr ts → DpAll G.K F vs ds → mkIt k ds = some xs → (∀ (J : It) (F' H' : Hp), Same F F' → FOk G σ F' H' fr ts → Itok G.K F' J xs → R J H') → Q vs H1) : tL G W (evL cf io false rs) σ H Q := by
  obtain ⟨F, fr, ts, hF, hq⟩ := tA_via hs h
  refine ⟨F, fr, ts, hF, ?_⟩
  cases q : evL cf io false rs fr with
  | stuck => rw [q] at hq; exact hq
  | raise c => rw [q] at hq; exact hq
  | ok p =>
    rw [q] at hq
    intro vs F1 H1 t1 s1 a1 h1
    obtain ⟨hl, F2, f2, ts2, ds, xs, h2, d2, e, hq⟩ := hq vs F1 H1 t1 s1 a1 h1
    exact i vs H1 F2 f2 ts2 ds xs hl h2 d2 e hq
theorem pi_rg1 {rs : Es} (hg : Gl X "range") (hm : X.mg "range" = none) (h : SEs' X G W cf io [a] rs) : PI X tg (.Call (.Name "range" p) [a] [] pos) (tI G W (evI cf io (.via .range rs))) := by
  refine PI.imp (pi_range1 hg hm (pa_of (b := false) h.plain) (by rw [ns_okx (h.k a List.mem_cons_self)]; rfl)) fun σ H R hq => tL_via h hq fun vs H1 F fr ts ds xs hl h2 d2 e hq => ?_
  rcases mkRange_inv e with ⟨j, rfl, j1, j2, rfl⟩ | ⟨i, j, rfl, _⟩
  · cases d2 with
    | cons dv dn =>
      cases dn; cases dv
      exact ⟨j, rfl, j1, j2, hq _ F H1 (Same.refl _) h2 itok_range⟩
  · rw [d2.length] at hl; cases hl
theorem pi_rg2 {rs : Es} (hg : Gl X "range") (hm : X.mg "range" = none) (h : SEs' X G W cf io [a, b] rs) : PI X tg (.Call (.Name "range" p) [a, b] [] pos) (tI G W (evI cf io (.via .range rs))) := by
  have nb := ns_okx (h.k b (List.mem_cons_of_mem _ List.mem_cons_self)) [] X.env
  refine PI.imp (pi_range2 hg hm (pa_of (b := false) h.plain) (by rw [ns_okx (h.k a List.mem_cons_self), nb]; rfl) (by rw [nb]; rfl)) fun σ H R hq => tL_via h hq fun vs H1 F fr ts ds xs hl h2 d2 e hq => ?_
  rcases mkRange_inv e with ⟨j, rfl, _⟩ | ⟨i, j, rfl, c, rfl⟩
  · rw [d2.length] at hl; cases hl
  · cases d2 with
    | cons dv dn =>
      cases dn with
      | cons dw dn =>
        cases dn; cases dv; cases dw
        exact ⟨i, j, rfl, c, hq _ F H1 (Same.refl _) h2 itok_range⟩
theorem mkEnum_inv {ds xs : List D} (h : mkIt .enum ds = some xs) : ∃ l, ds = [.list l] ∧ xs = enumP l := by
  rcases ds with _ | ⟨d, _ | ⟨d2, ds⟩⟩
  · cases h
  · cases d <;> first | (cases h; exact ⟨_, rfl, rfl⟩) | cases h
  · cases d <;> cases h
theorem mkZip_inv {ds xs : List D} (h : mkIt .zip ds = some xs) : (∃ l m, ds = [.list l, .list m] ∧ xs = zipP l m) ∨ ∃ l m, ds = [.tuple l, .tuple m] ∧ xs = zipP l m := by
  rcases ds with _ | ⟨d, _ | ⟨d2, _ | ⟨d3, ds⟩⟩⟩
  · cases h
  · cases d <;> cases h
  · cases d <;> cases d2 <;> first | (cases h; exact .inl ⟨_, _, rfl, rfl⟩) | (cases h; exact .inr ⟨_, _, rfl, rfl⟩) | cases h
  · cases d <;> cases d2 <;> cases h
theorem pi_en {rs : Es} {elts : List Expr} {kk : Nat} {tpos : Pos} (hK : G.K = X.K) (hg : Gl X "enumerate") (hm : X.mg "enumerate" = none) (h : SEs' X G W cf io [a] rs) : PI X (.Tuple elts kk tpos) (.Call (.Name "enumerate" p) [a] [] pos) (tI G W (evI cf io (.via .enum rs))) := by
  refine PI.imp (pi_enum hg hm (pa_of (b := false) h.plain) (by rw [ns_okx (h.k a List.mem_cons_self)]; rfl)) fun σ H R hq => tL_via h hq fun vs H1 F fr ts ds xs hl h2 d2 e hq => ?_
  obtain ⟨l, rfl, rfl⟩ := mkEnum_inv e
  rw [hK] at d2
  cases d2 with
  | cons dv dn =>
    cases dn
    cases dv with
    | lst sq da => exact ⟨_, _, rfl, h2.sub.seq sq, hq _ F H1 (Same.refl _) h2 (by rw [hK]; exact itok_enum sq da)⟩
theorem pi_zp {rs : Es} {elts : List Expr} {kk : Nat} {tpos : Pos} (hK : G.K = X.K) (hg : Gl X "zip") (hm : X.mg "zip" = none) (h : SEs' X G W cf io [a, b] rs) : PI X (.Tuple elts kk tpos) (.Call (.Name "zip" p) [a, b] [] pos) (tI G W (evI cf io (.via .zip rs))) := by
  refine PI.imp (RZ.pi_zipA hg hm (pa_of (b := false) h.plain) (ns_okx (h.k a List.mem_cons_self) _ _) (any_false fun y hy => h.k y (List.mem_cons_of_mem _ hy))) fun σ H R hq => tL_via h hq fun vs H1 F fr ts ds xs hl h2 d2 e hq => ?_
  rw [hK] at d2
  rcases mkZip_inv e with ⟨l, m, rfl, rfl⟩ | ⟨l, m, rfl, rfl⟩
  · cases d2 with
    | cons dv dn =>
      cases dn with
      | cons dw dn =>
        cases dn
        cases dv with
        | lst sq da =>
          cases dw with
          | lst sq2 da2 => exact ⟨_, _, _, _, rfl, .inl ⟨h2.sub.seq sq, h2.sub.seq sq2, hq _ F H1 (Same.refl _) h2 (by rw [hK]; exact itok_zip sq da sq2 da2)⟩⟩
  · cases d2 with
    | cons dv dn =>
      cases dn with
      | cons dw dn =>
        cases dn
        cases dv with
        | tup sq da =>
          cases dw with
          | tup sq2 da2 => exact ⟨_, _, _, _, rfl, .inr ⟨h2.sub.seqT sq, h2.sub.seqT sq2, hq _ F H1 (Same.refl _) h2 (by rw [hK]; exact itok_zipT sq da sq2 da2)⟩⟩
end
end PP

namespace PP
open PySem PySem.Spec PyProof.Rows
open L2

/-! ### targets -/
def tSlots : T → List Nat
  | .nm i => [i]
  | .tp is => is
/-- a value that has come -/
def HasV (G : Ctx) (σ : L2.St) (F H : Hp) (fr : Fr) (ts : List (Addr × D)) (v : V) : SV → Prop
  | .val d => Dp G.K F v d ∧ FOk G σ F H fr ts
  | .own d => ∃ a, v = .ref a ∧ FOk G σ F H fr ((a, d) :: ts)
def gT (G : Ctx) (io : Bool) (tg : T) : TG := fun v σ H Q => ∃ F fr ts s, HasV G σ F H fr ts v s ∧ match asgT io fr tg s with
  | .ok f => ∀ σ', FOk G σ' F H f ts → σ'.length = σ.length → (∀ j, j ∉ tSlots tg → σ'[j]? = σ[j]?) → Q σ' H
  | _ => False
structure NmOk (X : Cx) (i : Nat) (x : Str) : Prop where
  ix : X.N[i]? = some x
  loc : Loc X.env.scope x
  fn : X.fn x = true ∨ X.env.scope.names.lookup x = some .local
inductive NmsOk (X : Cx) : List Expr → List Nat → Prop
  | nil : NmsOk X [] []
  | cons {i : Nat} {x : Str} {p : Pos} {es : List Expr} {is : List Nat} : NmOk X i x → NmsOk X es is → NmsOk X (.Name x p :: es) (i :: is)
def gNs : List Nat → TGs
  | [] => gNil
  | i :: is => gCons (gName i) (gNs is)
theorem PG.imp {X : Cx} {e : Expr} {t t' : TG} (h : PG X e t) (i : ∀ v σ H Q, t' v σ H Q → t v σ H Q) : PG X e t' := ⟨fun pins s σ H v u Q I r hw => h.run pins s σ H v u Q I r (i _ _ _ _ hw)⟩
section
variable {X : Cx} {G : Ctx} {io : Bool}
theorem put1_inv {fr f : Fr} {i : Nat} {s : SV} (h : put1 io fr i s = .ok f) : (io && i == 0) = false ∧ i < fr.length ∧ f = fr.set i (some s) := by
  unfold put1 at h
  split at h
  · cases h
  · rename_i c
    simp only [Bool.or_eq_true, decide_eq_true_eq, not_or, Bool.not_eq_true] at c
    cases h
    exact ⟨c.1, by omega, rfl⟩
theorem put1_nr {fr : Fr} {i : Nat} {s : SV} {c : Str} : put1 io fr i s ≠ .raise c := by
  unfold put1; split <;> exact fun z => by cases z
theorem pgs_of (hN : X.N.Nodup) : ∀ {es : List Expr} {is : List Nat}, NmsOk X es is → PGs X es (gNs is)
  | _, _, .nil => pgs_nil
  | _, _, .cons h t => pgs_cons (pg_name hN h.ix h.loc h.fn) (pgs_of hN t)
theorem nms_len : ∀ {es : List Expr} {is : List Nat}, NmsOk X es is → (assignEach es X.env).length = is.length ∧ (assignEach es X.env).findIdx? (·.1) = none
  | _, _, .nil => ⟨rfl, rfl⟩
  | _, _, .cons (x := x) (p := p) (es := es) h t => by
    obtain ⟨h1, h2⟩ := nms_len t
    have e : assignEach (.Name x p :: es) X.env = (false, assign (.Name x p) X.env) :: assignEach es X.env := rfl
    rw [e]
    refine ⟨by rw [List.length_cons, List.length_cons, h1], ?_⟩
    rw [List.findIdx?_cons, h2]
    rfl
theorem HasV.put {σ : L2.St} {F H : Hp} {fr f : Fr} {ts : List (Addr × D)} {v : V} {s : SV} {i : Nat} (hio : io = false → G.io = none) (h : HasV G σ F H fr ts v s) (e : put1 io fr i s = .ok f) : FOk G (σ.set i (some v)) F H f ts := by
  obtain ⟨e1, e2, rfl⟩ := put1_inv e
  cases s with
  | val d => exact h.2.putV e2 (io_no hio e1) h.1
  | own d =>
    obtain ⟨a, rfl, h⟩ := h
    exact h.putO e2 (io_no hio e1)
theorem gNs_of (hio : io = false → G.io = none) : ∀ {is : List Nat} {vs : List V} {ds : List D} {σ : L2.St} {F H : Hp} {fr f : Fr} {ts : List (Addr × D)} {Q : L2.St → Hp → Prop}, FOk G σ F H fr ts → DpAll G.K F vs ds → putAll io fr is (ds.map .val) = .ok f →
    (∀ σ', FOk G σ' F H f ts → σ'.length = σ.length → (∀ j, j ∉ is → σ'[j]? = σ[j]?) → Q σ' H) → gNs is vs σ H Q
  | [], _, [], σ, F, H, fr, f, ts, Q, h, .nil, e, q => by
    simp [putAll] at e; subst e
    exact ⟨rfl, q σ h rfl fun _ _ => rfl⟩
  | [], _, _ :: _, σ, F, H, fr, f, ts, Q, h, .cons _ _, e, q => by simp [putAll] at e
  | _ :: _, _, [], σ, F, H, fr, f, ts, Q, h, .nil, e, q => by simp [putAll] at e
  | i :: is, _, d :: ds, σ, F, H, fr, f, ts, Q, h, .cons (v := v) (vs := vs) hd t, e, q => by
    rw [List.map_cons, putAll] at e
    cases q1 : put1 io fr i (.val d) with
    | stuck => rw [q1] at e; cases e
    | raise c => exact absurd q1 put1_nr
    | ok f1 =>
      rw [q1, Res.bind_ok] at e
      have h1 : FOk G (σ.set i (some v)) F H f1 ts := HasV.put (s := .val d) hio ⟨hd, h⟩ q1
      refine ⟨v, vs, rfl, gNs_of hio h1 t e fun σ' h2 l2 a2 => q σ' h2 (by rw [l2, List.length_set]) fun j hj => ?_⟩
      rw [List.mem_cons, not_or] at hj
      rw [a2 j hj.2, List.getElem?_set_ne (Ne.symm hj.1)]
theorem pg_T1 {i : Nat} {x : Str} {p : Pos} (hN : X.N.Nodup) (hio : io = false → G.io = none) (h : NmOk X i x) : PG X (.Name x p) (gT G io (.nm i)) := by
  refine PG.imp (pg_name hN h.ix h.loc h.fn) fun v σ H Q hq => ?_
  obtain ⟨F, fr, ts, s, hv, hq⟩ := hq
  rw [asgT] at hq
  cases q : put1 io fr i s with
  | stuck => rw [q] at hq; exact hq.elim
  | raise c => rw [q] at hq; exact hq.elim
  | ok f =>
    rw [q] at hq
    refine hq _ (hv.put hio q) (by rw [List.length_set]) fun j hj => ?_
    simp only [tSlots, List.mem_singleton] at hj
    rw [List.getElem?_set_ne (Ne.symm hj)]
theorem pg_Tp {es : List Expr} {is : List Nat} {k : Nat} {p : Pos} (hc : X.calm = true) (hK : G.K = X.K) (hN : X.N.Nodup) (hio : io = false → G.io = none) (h : NmsOk X es is) : PG X (.Tuple es k p) (gT G io (.tp is)) := by
  refine PG.imp (pg_tup hc (pgs_of hN h) (nms_len h).1 (nms_len h).2) fun v σ H Q hq => ?_
  obtain ⟨F, fr, ts, s, hv, hq⟩ := hq
  unfold asgT at hq
  split at hq
  · rename_i f q0
    split at q0
    · rename_i ht; cases ht
    · rename_i is' ds ht
      cases ht
      obtain ⟨hd, hF⟩ := hv
      rw [hK] at hd
      cases hd with
      | tup sq da =>
        have hl : ds.length = is.length := by
          have : ∀ (is : List Nat) (ss : List SV) (fr f : Fr), putAll io fr is ss = .ok f → ss.length = is.length := by
            intro is
            induction is with
            | nil => intro ss fr f e; cases ss <;> simp [putAll] at e ⊢
            | cons i is ih =>
              intro ss fr f e
              cases ss with
              | nil => simp [putAll] at e
              | cons s ss =>
                rw [putAll] at e
                cases q1 : put1 io fr i s with
                | stuck => rw [q1] at e; cases e
                | raise c => exact absurd q1 put1_nr
                | ok f1 => rw [q1, Res.bind_ok] at e; rw [List.length_cons, List.length_cons, ih ss f1 f e]
          have := this _ _ _ _ q0
          rw [List.length_map] at this; exact this
        exact ⟨_, _, rfl, hF.sub.seqT sq, by rw [da.length, hl], gNs_of hio hF (by rw [hK]; exact da) q0 hq⟩
    · cases q0
  · exact hq.elim
end

/-! ### slots forgotten and given back -/
section
variable {G : Ctx} {σ : L2.St} {F F' H H' : Hp} {fr f g : Fr} {ts : List (Addr × D)}
theorem FOk.wipe1 (h : FOk G σ F H fr ts) {v : Nat} (n : ∀ d, getS fr v ≠ some (.own d)) : FOk G (σ.set v none) F H (fr.set v none) ts := by
  have gs : ∀ j s, getS (fr.set v none) j = some s → v ≠ j ∧ getS fr j = some s := fun j s q => by
    by_cases hj : v = j
    · subst hj
      unfold getS at q
      by_cases hl : v < fr.length
      · rw [List.getElem?_set_self hl] at q; cases q
      · rw [List.getElem?_eq_none (by rw [List.length_set]; omega)] at q; cases q
    · rw [getS_set_ne hj] at q; exact ⟨hj, q⟩
  have st : ∀ j, v ≠ j → (σ.set v none)[j]? = σ[j]? := fun j hj => List.getElem?_set_ne hj
  have no0 : ∀ a, G.io = some a → v ≠ 0 := fun a z w => by
    obtain ⟨d, hd⟩ := h.ioc a z
    rw [← w] at hd
    exact n d hd
  refine ⟨by rw [List.length_set, List.length_set]; exact h.len, fun j s q => ?_, fun j k b d' e' q1 q2 q3 q4 => ?_, h.tmp, h.tnd, fun p hp j d' q => ?_, h.sub, h.base, h.keep, h.new, fun a z => ?_, h.tio, fun a z => ?_, fun j d' b q q2 => ?_, h.tab, h.fnt⟩
  · obtain ⟨hj, q⟩ := gs j s q
    rw [st j hj]; exact h.slot j s q
  · obtain ⟨hj, q1⟩ := gs j _ q1
    obtain ⟨hk, q2⟩ := gs k _ q2
    rw [st j hj] at q3
    rw [st k hk] at q4
    exact h.inj j k b d' e' q1 q2 q3 q4
  · obtain ⟨hj, q⟩ := gs j _ q
    rw [st j hj]; exact h.dj p hp j d' q
  · rw [st 0 (no0 a z)]; exact h.pin a z
  · obtain ⟨d, hd⟩ := h.ioc a z
    exact ⟨d, by rw [getS_set_ne (no0 a z)]; exact hd⟩
  · obtain ⟨hj, q⟩ := gs j _ q
    rw [st j hj] at q2; exact h.ios j d' b q q2
theorem wipeF_cons {v : Nat} {vs : List Nat} (e : wipeF fr (v :: vs) = some f) : ∃ g, wipeF fr vs = some g ∧ (∀ d, getS g v ≠ some (.own d)) ∧ f = g.set v none := by
  rw [wipeF] at e
  cases q : wipeF fr vs with
  | none => rw [q] at e; cases e
  | some g =>
    rw [q, Option.bind_some] at e
    refine ⟨g, rfl, ?_⟩
    unfold getS
    cases q2 : g[v]? with
    | none => rw [q2] at e; cases e
    | some o =>
      rw [q2] at e
      cases o with
      | none => cases e; exact ⟨fun d z => (by cases z), rfl⟩
      | some s =>
        cases s with
        | val d => cases e; exact ⟨fun d z => (by cases z), rfl⟩
        | own d => cases e
theorem FOk.wipes (h : FOk G σ F H fr ts) : ∀ {vs : List Nat} {f : Fr}, wipeF fr vs = some f → FOk G (L2.wipe σ vs) F H f ts
  | [], f, e => by simp [wipeF] at e; subst e; exact h
  | v :: vs, f, e => by
    obtain ⟨g, e1, n, rfl⟩ := wipeF_cons e
    exact (h.wipes e1).wipe1 n
theorem wipe_at {vs : List Nat} {j : Nat} (hj : j ∈ vs) : (L2.wipe σ vs)[j]? = if j < σ.length then some none else none := by
  induction vs with
  | nil => cases hj
  | cons v vs ih =>
    rw [L2.wipe]
    by_cases h : v = j
    · subst h
      by_cases hl : v < σ.length
      · rw [if_pos hl, List.getElem?_set_self (by rw [wipe_length]; exact hl)]
      · rw [if_neg hl, List.getElem?_eq_none (by rw [List.length_set, wipe_length]; omega)]
    · rw [List.getElem?_set_ne h]
      exact ih ((List.mem_cons.mp hj).resolve_left (Ne.symm h))
theorem wipe_eq {σ' : L2.St} {vs : List Nat} (hl : σ'.length = σ.length) (h : ∀ j, j ∉ vs → σ'[j]? = (L2.wipe σ vs)[j]?) : L2.wipe σ' vs = L2.wipe σ vs := by
  apply List.ext_getElem?
  intro j
  by_cases hj : j ∈ vs
  · rw [wipe_at hj, wipe_at hj, hl]
  · rw [wipe_out hj, h j hj]
theorem backF_len : ∀ vs : List Nat, (backF f g vs).length = f.length
  | [] => rfl
  | v :: vs => by rw [backF, List.length_set, backF_len vs]
theorem getS_back : ∀ {vs : List Nat} {j : Nat}, getS (backF f g vs) j = if j ∈ vs ∧ j < f.length then getS g j else getS f j
  | [], j => by simp [backF]
  | v :: vs, j => by
    rw [backF]
    by_cases hj : v = j
    · subst hj
      by_cases hl : v < f.length
      · rw [if_pos ⟨List.mem_cons_self, hl⟩]
        unfold getS
        rw [List.getElem?_set_self (by rw [backF_len]; exact hl)]
        rfl
      · rw [if_neg (fun z => hl z.2)]
        unfold getS
        rw [List.getElem?_eq_none (by rw [List.length_set, backF_len]; omega), List.getElem?_eq_none (by omega)]
    · rw [getS_set_ne hj, getS_back]
      by_cases hl : j < f.length
      · by_cases hm : j ∈ vs
        · rw [if_pos ⟨hm, hl⟩, if_pos ⟨List.mem_cons_of_mem _ hm, hl⟩]
        · rw [if_neg (fun z => hm z.1), if_neg (fun z => (List.mem_cons.mp z.1).elim (fun w => hj w.symm) hm)]
      · rw [if_neg (fun z => hl z.2), if_neg (fun z => hl z.2)]
theorem wipeF_own : ∀ {vs : List Nat} {f : Fr}, wipeF fr vs = some f → ∀ j ∈ vs, ∀ d, getS fr j ≠ some (.own d)
  | [], f, e, j, hj, d => by cases hj
  | v :: vs, f, e, j, hj, d => by
    obtain ⟨g, e1, n, rfl⟩ := wipeF_cons e
    by_cases hm : j ∈ vs
    · exact wipeF_own e1 j hm d
    · obtain rfl : j = v := (List.mem_cons.mp hj).resolve_right hm
      have : getS g j = getS fr j := by
        have key : ∀ {vs : List Nat} {g : Fr}, wipeF fr vs = some g → j ∉ vs → getS g j = getS fr j := by
          intro vs
          induction vs with
          | nil => intro g e _; simp [wipeF] at e; subst e; rfl
          | cons w ws ih =>
            intro g e hn
            obtain ⟨g2, e2, _, rfl⟩ := wipeF_cons e
            rw [List.mem_cons, not_or] at hn
            rw [getS_set_ne (Ne.symm hn.1), ih e2 hn.2]
        exact key e1 hm
      rw [← this]; exact n d
/-- the block's slots stand again as they stood ahead of it -/
theorem FOk.unwipe {F1 H1 : Hp} {f0 : Fr} {ts1 : List (Addr × D)} {vs : List Nat} (h1 : FOk G σ F1 H1 f ts1) (e : wipeF f vs = some f0) (h2 : FOk G (L2.wipe σ vs) F' H' g ts) (s : Same F1 F') : FOk G σ F' H' (backF g f vs) ts := by
  have hl : σ.length = g.length := by have := h2.len; rw [wipe_length] at this; exact this
  have cs : ∀ j t, getS (backF g f vs) j = some t → (j ∈ vs ∧ getS f j = some t ∧ ∀ d, t ≠ .own d) ∨ (j ∉ vs ∧ getS g j = some t) := fun j t q => by
    rw [getS_back] at q
    split at q
    · rename_i c
      exact .inl ⟨c.1, q, fun d z => wipeF_own e j c.1 d (by rw [q, z])⟩
    · rename_i c
      refine .inr ⟨fun hm => c ⟨hm, getS_lt q⟩, q⟩
  have own : ∀ j d, getS (backF g f vs) j = some (.own d) → j ∉ vs ∧ getS g j = some (.own d) := fun j d q => by
    rcases cs j _ q with ⟨_, _, n⟩ | z
    · exact absurd rfl (n d)
    · exact z
  have no0 : ∀ a, G.io = some a → 0 ∉ vs := fun a z hm => by
    obtain ⟨d, hd⟩ := h1.ioc a z
    exact wipeF_own e 0 hm d hd
  refine ⟨by rw [backF_len]; exact hl, fun j t q => ?_, fun j k b d1 d2 q1 q2 q3 q4 => ?_, h2.tmp, h2.tnd, fun p hp j d q => ?_, h2.sub, h2.base, h2.keep, h2.new, h1.pin, h2.tio, fun a z => ?_, fun j d b q q2 z => ?_, h2.tab, h2.fnt⟩
  · rcases cs j t q with ⟨_, q', n⟩ | ⟨hm, q'⟩
    · obtain ⟨v, hv, hs⟩ := h1.slot j t q'
      refine ⟨v, hv, ?_⟩
      cases t with
      | val d => exact L2.Dp.mono s hs
      | own d => exact absurd rfl (n d)
    · have := h2.slot j t q'
      rw [wipe_out hm] at this
      exact this
  · obtain ⟨m1, q1⟩ := own j _ q1
    obtain ⟨m2, q2⟩ := own k _ q2
    exact h2.inj j k b d1 d2 q1 q2 (by rw [wipe_out m1]; exact q3) (by rw [wipe_out m2]; exact q4)
  · obtain ⟨m1, q1⟩ := own j _ q
    have := h2.dj p hp j d q1
    rw [wipe_out m1] at this; exact this
  · obtain ⟨d, hd⟩ := h2.ioc a z
    refine ⟨d, ?_⟩
    rw [getS_back, if_neg (fun w => no0 a z w.1)]
    exact hd
  · obtain ⟨m1, q1⟩ := own j _ q
    exact h2.ios j d b q1 (by rw [wipe_out m1]; exact q2) z
/-- a temp list is written -/
theorem FOk.writeT {a : Addr} {d : D} {ws : List V} {ys : List D} (h : FOk G σ F H fr ((a, d) :: ts)) (hd : DpAll G.K F ws ys) : FOk G σ F (upd H a (.lst ws)) fr ((a, .list ys) :: ts) := by
  obtain ⟨n, hn0, hc⟩ := h.tmp _ List.mem_cons_self
  obtain ⟨vs, hvs⟩ := hc.lst
  have nd := h.tnd
  rw [List.map_cons, List.nodup_cons] at nd
  have nio : G.io ≠ some a := h.tio _ List.mem_cons_self
  have h0a : Nw G.H0 a := hn0.resolve_right nio
  have st : ∀ b o, b ≠ a → H b = some o → upd H a (.lst ws) b = some o := fun b o hb q => by rw [upd_ne hb]; exact q
  refine ⟨h.len, fun j s q => ?_, h.inj, fun p hp => ?_, h.tnd, fun p hp j d' q => ?_, fun b o q => ?_, h.base, fun b o q t z => ?_, h.new, h.pin, fun p hp => ?_, h.ioc, h.ios, tabs_upd hvs h.tab, h.fnt⟩
  · obtain ⟨v, h1, h2⟩ := h.slot j s q
    refine ⟨v, h1, ?_⟩
    cases s with
    | val d => exact h2
    | own d' =>
      obtain ⟨b, rfl, ho⟩ := h2
      refine ⟨b, rfl, ho.1, ho.2.1, ho.2.2.at fun o z => st b o (fun w => ?_) z⟩
      exact h.dj _ List.mem_cons_self j _ q (by rw [h1, w])
  · rcases List.mem_cons.mp hp with rfl | hp
    · exact ⟨n, hn0, ws, upd_same, hd⟩
    · have ho := h.tmp p (List.mem_cons_of_mem _ hp)
      exact ⟨ho.1, ho.2.1, ho.2.2.at fun o z => st _ o (fun w => nd.1 (List.mem_map.mpr ⟨p, hp, w⟩)) z⟩
  · rcases List.mem_cons.mp hp with rfl | hp
    · exact h.dj _ List.mem_cons_self j d' q
    · exact h.dj p (List.mem_cons_of_mem _ hp) j d' q
  · exact st b o (fun z => by subst z; rw [show F b = none from n] at q; cases q) (h.sub b o q)
  · refine st b o (fun w => ?_) (h.keep b o q t z)
    subst w
    exact h0a o q t
  · rcases List.mem_cons.mp hp with rfl | hp
    · exact nio
    · exact h.tio p (List.mem_cons_of_mem _ hp)
/-- the item that a turn yields -/
theorem Itok.take {J : It} {xs : List D} {F0 : Hp} (k : Itok G.K F0 J xs) {i : Nat} {d : D} {x : V} (e : xs[i]? = some d) (y : J.yld i H x H') (s : Same F0 F) (h : FOk G σ F H fr ts) : ∃ F', Same F F' ∧ FOk G σ F' H' fr ts ∧ Dp G.K F' x d := by
  rcases k.yld i d H x H' e (s.trans h.sub) y with ⟨rfl, hd⟩ | ⟨p, vs, ds, n, rfl, rfl, rfl, hd⟩
  · exact ⟨F, Same.refl _, h, L2.Dp.mono s hd⟩
  · obtain ⟨s1, h1, d1⟩ := h.newT n (hd.mono s)
    exact ⟨_, s1, h1, d1⟩
end
end PP

namespace PP
open PySem PySem.Spec PyProof.Rows
open L2

def W0 : WX := fun _ _ _ _ => False
/-- one turn of a comprehension -/
def lcStep (cf : CF) (io : Bool) (elt : E) (tg : T) (ifs : Es) (vs : List Nat) (g : Fr) (d : D) : Res (Fr × Option D) := Res.bind (asgT io g tg (.val d)) fun g1 => Res.bind (evTs cf io ifs g1) fun (g2, t) =>
  if t then Res.bind (evE cf io elt g2) fun (g3, s) => Res.bind (.ofOpt (frz s)) fun y => Res.bind (.ofOpt (wipeF g3 vs)) fun g4 => .ok (g4, some y) else Res.bind (.ofOpt (wipeF g2 vs)) fun g4 => .ok (g4, none)
theorem evE_lc {cf : CF} {io : Bool} {elt : E} {tg : T} {it : I} {ifs : Es} {vs : List Nat} {fr : Fr} : evE cf io (.lc elt tg it ifs vs) fr = Res.bind (evI cf io it fr) fun (f, xs) => Res.bind (.ofOpt (wipeF f vs)) fun f0 =>
      if okLen xs.length then Res.bind (calm (lcLoop (lcStep cf io elt tg ifs vs) xs f0 [])) fun (g, ys) => .ok (backF g f vs, own ys) else .stuck := by rw [evE]; first | done | rfl
theorem evTs_nil {cf : CF} {io : Bool} {fr : Fr} : evTs cf io .nil fr = .ok (fr, true) := by rw [evTs]
theorem evTs_one {cf : CF} {io : Bool} {e : E} {fr : Fr} : evTs cf io (.cons e .nil) fr = evB cf io e fr := by rw [evTs]; first | done | rfl
section
variable {X : Cx} {G : Ctx} {W : WX} {cf : CF} {io : Bool} {a b c e : Expr} {r r1 r2 r3 : E} {pos p p2 p3 : Pos}
theorem PTs.imp {X : Cx} {e : List Expr} {t t' : TT} (h : PTs X e t) (i : ∀ σ H Q, t' σ H Q → t σ H Q) : PTs X e t' := ⟨fun pins s σ H Q I hw => h.run pins s σ H Q I (i _ _ _ hw)⟩
theorem pts_no : PTs X [] (tT G W (evTs cf io .nil)) := PTs.imp pts_nil fun σ H Q hq => by
  obtain ⟨F, fr, ts, hF, hq⟩ := hq
  rw [evTs_nil] at hq
  exact hq F H (Same.refl _) hF
theorem pts_yes (h : SE X G W cf io c r) : PTs X [c] (tT G W (evTs cf io (.cons r .nil))) := PTs.imp (pts_one h.pt) fun σ H Q hq => by
  obtain ⟨F, fr, ts, hF, hq⟩ := hq
  refine ⟨F, fr, ts, hF, ?_⟩
  rw [evTs_one] at hq
  exact hq
theorem lcLoop_cons {step : Fr → D → Res (Fr × Option D)} {d : D} {ds : List D} {fr : Fr} {acc : List D} {p : Fr × List D} (h : lcLoop step (d :: ds) fr acc = .ok p) :
    ∃ f o, step fr d = .ok (f, o) ∧ lcLoop step ds f (match o with | some y => acc ++ [y] | none => acc) = .ok p := by
  rw [lcLoop] at h
  cases q : step fr d with
  | stuck => rw [q] at h; cases h
  | raise c => rw [q] at h; cases h
  | ok r =>
    obtain ⟨f, o⟩ := r
    rw [q] at h
    exact ⟨f, o, rfl, h⟩
/-- the turns -/
theorem lc_turns {σ : L2.St} {F2 H2 : Hp} {f f0 g : Fr} {ts : List (Addr × D)} {vs : List Nat} {J : It} {xs ys : List D} {Dn : Addr} {elt : E} {tg : T} {ifs : Es} {Qd : Hp → Prop}
    (h : FOk G σ F2 H2 f ts) (hw : wipeF f vs = some f0) (k : Itok G.K F2 J xs) (hz : okLen xs.length = true) (hl : lcLoop (lcStep cf io elt tg ifs vs) xs f0 [] = .ok (g, ys)) (hD : H2 Dn = none) (hsl : ∀ i ∈ tSlots tg, i ∈ vs)
    (hQ : ∀ F' H', Same F2 F' → FOk G σ F' H' (backF g f vs) ((Dn, .list ys) :: ts) → Qd H') :
    ∃ W : Nat → Nat → Hp → Prop, (∃ m, W 0 m (upd H2 Dn (.lst []))) ∧ ∀ i m H, W i m H →
      (J.stop i H ∧ Qd H) ∨ (J.go i H ∧ ∃ Nx : Hp → Prop, (∀ H', Nx H' → ∃ m', m' < m ∧ W (i + 1) m' H') ∧ ∀ x H', J.yld i H x H' → gT G io tg x (wipe σ vs) H' fun σ2 H2 => wipe σ2 vs = wipe σ vs ∧ tT G W0 (evTs cf io ifs) σ2 H2 fun b H3 =>
        if b = true then tE G W0 (evE cf io elt) σ2 H3 fun y H4 => ∃ acc, H4 Dn = some (.lst acc) ∧ acc.length < sizeLine ∧ Nx (upd H4 Dn (.lst (acc ++ [y]))) else Nx H3) := by
  refine ⟨fun i m H => m = xs.length - i ∧ i ≤ xs.length ∧ ∃ F fr acc, Same F2 F ∧ FOk G (wipe σ vs) F H fr ((Dn, .list acc) :: ts) ∧ acc.length ≤ i ∧ lcLoop (lcStep cf io elt tg ifs vs) (xs.drop i) fr acc = .ok (g, ys),
    ⟨xs.length, by simp, Nat.zero_le _, F2, f0, [], Same.refl _, (h.wipes hw).newL hD .nil, Nat.zero_le _, hl⟩, ?_⟩
  rintro i m H ⟨rfl, hi, F, fr, acc, s1, hF, ha, hr⟩
  by_cases hlt : i < xs.length
  · refine .inr ⟨k.go i H hlt (s1.trans hF.sub), _, fun H' n => ⟨xs.length - (i + 1), by omega, n⟩, fun x H' y => ?_⟩
    have ed : xs.drop i = xs[i] :: xs.drop (i + 1) := by rw [List.drop_eq_getElem_cons hlt]
    rw [ed] at hr
    obtain ⟨f1, o, e1, e2⟩ := lcLoop_cons hr
    obtain ⟨F3, s3, h3, d3⟩ := k.take (List.getElem?_eq_getElem hlt) y s1 hF
    refine ⟨F3, fr, _, .val xs[i], ⟨d3, h3⟩, ?_⟩
    unfold lcStep at e1
    cases q1 : asgT io fr tg (.val xs[i]) with
    | stuck => rw [q1] at e1; cases e1
    | raise c => rw [q1] at e1; cases e1
    | ok g1 =>
      rw [q1, Res.bind_ok] at e1
      intro σ' h4 l4 a4
      have hwp : wipe σ' vs = wipe σ vs := wipe_eq (by rw [l4, wipe_length]) fun j hj => a4 j fun z => hj (hsl j z)
      refine ⟨hwp, F3, g1, _, h4, ?_⟩
      cases q2 : evTs cf io ifs g1 with
      | stuck => rw [q2] at e1; cases e1
      | raise c => rw [q2] at e1; cases e1
      | ok p2 =>
        obtain ⟨g2, t⟩ := p2
        rw [q2, Res.bind_ok] at e1
        dsimp only at e1 ⊢
        intro F5 H5 s5 h5
        cases t with
        | false =>
          rw [if_neg Bool.false_ne_true] at e1 ⊢
          cases q3 : wipeF g2 vs with
          | none => rw [q3] at e1; cases e1
          | some g4 =>
            rw [q3, Res.ofOpt_some, Res.bind_ok] at e1
            cases e1
            have h6 := h5.wipes q3
            rw [hwp] at h6
            exact ⟨rfl, hlt, F5, _, acc, (s1.trans s3).trans s5, h6, by omega, e2⟩
        | true =>
          rw [if_pos rfl] at e1 ⊢
          refine ⟨F5, g2, _, h5, ?_⟩
          cases q3 : evE cf io elt g2 with
          | stuck => rw [q3] at e1; cases e1
          | raise c => rw [q3] at e1; cases e1
          | ok p3 =>
            obtain ⟨g3, s⟩ := p3
            rw [q3, Res.bind_ok] at e1
            dsimp only at e1 ⊢
            cases q4 : frz s with
            | none => rw [q4] at e1; cases e1
            | some yv =>
              rw [q4, Res.ofOpt_some, Res.bind_ok] at e1
              cases q5 : wipeF g3 vs with
              | none => rw [q5] at e1; cases e1
              | some g4 =>
                rw [q5, Res.ofOpt_some, Res.bind_ok] at e1
                cases e1
                intro v F6 H6 s6 hv
                obtain ⟨F7, s7, h7, d7⟩ := okE.frz hv q4
                obtain ⟨_, _, vs', hD', dD⟩ := h7.tmp _ List.mem_cons_self
                have hla : vs'.length = acc.length := dD.length
                refine ⟨vs', hD', ?_, ?_⟩
                · rw [hla]
                  have := okLen_le hz
                  omega
                · have h8 := (h7.writeT (dD.append (.cons d7 .nil))).wipes q5
                  rw [hwp] at h8
                  refine ⟨rfl, hlt, F7, _, acc ++ [yv], (((s1.trans s3).trans s5).trans s6).trans s7, h8, ?_, e2⟩
                  rw [List.length_append]; simp; omega
  · have e : i = xs.length := by omega
    subst e
    rw [List.drop_length] at hr
    cases hr
    exact .inl ⟨k.stop H (s1.trans hF.sub), hQ F H s1 (h.unwipe hw hF s1)⟩
theorem tLc_of {rI : I} {rT : T} {rIfs : Es} {vs : List Nat} (hsl : ∀ i ∈ tSlots rT, i ∈ vs) {σ : L2.St} {H : Hp} {Q : VK} (hq : tE G W (evE cf io (.lc r rT rI rIfs vs)) σ H Q) :
    tLc (tI G W (evI cf io rI)) (gT G io rT) (tT G W0 (evTs cf io rIfs)) (tE G W0 (evE cf io r)) vs σ H Q := by
  obtain ⟨F, fr, ts, hF, hq⟩ := hq
  refine ⟨F, fr, ts, hF, ?_⟩
  rw [evE_lc] at hq
  cases q : evI cf io rI fr with
  | stuck => rw [q] at hq; exact hq
  | raise c => rw [q] at hq; exact hq
  | ok p =>
    obtain ⟨f, xs⟩ := p
    rw [q, Res.bind_ok] at hq
    dsimp only at hq ⊢
    cases q2 : wipeF f vs with
    | none => rw [q2] at hq; exact hq.elim
    | some f0 =>
      rw [q2, Res.ofOpt_some, Res.bind_ok] at hq
      by_cases hz : okLen xs.length = true
      · rw [if_pos hz] at hq
        cases q3 : lcLoop (lcStep cf io r rT rIfs vs) xs f0 [] with
        | stuck => rw [q3] at hq; exact hq.elim
        | raise c => rw [q3] at hq; exact hq.elim
        | ok p3 =>
          obtain ⟨g, ys⟩ := p3
          rw [q3] at hq
          simp only [calm, Res.bind_ok] at hq
          intro J F2 H2 s2 h2 k D hD
          exact lc_turns h2 q2 k hz q3 hD hsl fun F' H' s' h' => hq (.ref D) F' H' (s2.trans s') ⟨D, rfl, h'⟩
      · rw [if_neg hz] at hq; exact hq.elim
theorem se_lc {elt tg iter : Expr} {ifs : List Expr} {scope : Scope} {own : List (Str × Nat)} {rI : I} {rT : T} {rIfs : Es} {vs : List Nat} (R : Rdy X G W io) (hi : PI X tg iter (tI G W (evI cf io rI))) (ok : BlkOk X.N X.env.scope scope own) (hvs : own.map (·.2) = vs) (hsl : ∀ i ∈ tSlots rT, i ∈ vs)
    (hg : ∀ (s : Shared) (H : Hp) (C : Addr) (cl : List (Str × Addr)) (fp : List Addr), PG (X.blk s H scope (compEnvC scope cl C X.env) fp) tg (gT G io rT))
    (ht : ∀ (s : Shared) (H : Hp) (C : Addr) (cl : List (Str × Addr)) (fp : List Addr), PTs (X.blk s H scope (compEnvC scope cl C X.env) fp) ifs (tT G W0 (evTs cf io rIfs)))
    (he : ∀ (s : Shared) (H : Hp) (C : Addr) (cl : List (Str × Addr)) (fp : List Addr), PE (X.blk s H scope (compEnvC scope cl C X.env) fp) elt (tE G W0 (evE cf io r))) (hs : ∀ x, foldedSetIterable iter X.env x = pure x) :
    SE' X G W cf io (.ListComp elt [⟨tg, iter, ifs, 0⟩] scope pos) (.lc r rT rI rIfs vs) := by
  subst hvs
  exact se_by' rfl rfl (pe_lc R.hc R.nd hi ok hg ht he hs) (fun _ => rfl) fun σ H Q hq => tLc_of hsl hq
end
end PP

namespace PP
open PySem PySem.Spec PyProof.Rows
open L2

/-! ### statements -/
def okS (G : Ctx) (F : Hp) (f : Fr) (ts : List (Addr × D)) (D : Ends) : Out → Prop
  | .nx => ∀ σ' F' H', Same F F' → FOk G σ' F' H' f ts → D.nx σ' H'
  | .brk => ∀ σ' F' H', Same F F' → FOk G σ' F' H' f ts → D.bk σ' H'
  | .ct => ∀ σ' F' H', Same F F' → FOk G σ' F' H' f ts → D.ct σ' H'
  | .rt s => ∀ v σ' F' H', Same F F' → HasV G σ' F' H' f ts v s → D.rt v H'
def okXS (G : Ctx) (W : WX) (c : Str) : Prop := ∀ σ, okX G W σ c
def tS (G : Ctx) (W : WX) (r : Fr → Res (Fr × Out)) : TS := fun D σ H => ∃ F fr ts, FOk G σ F H fr ts ∧ match r fr with
  | .ok (f, o) => okS G F f ts D o
  | .raise c => okXS G W c
  | .stuck => False
theorem okS.weak {G : Ctx} {F F1 : Hp} {f : Fr} {ts : List (Addr × D)} {D : Ends} {o : Out} (h : okS G F f ts D o) (s : Same F F1) : okS G F1 f ts D o := by
  cases o with
  | nx => exact fun σ' F' H' e => h σ' F' H' (s.trans e)
  | brk => exact fun σ' F' H' e => h σ' F' H' (s.trans e)
  | ct => exact fun σ' F' H' e => h σ' F' H' (s.trans e)
  | rt v => exact fun v σ' F' H' e => h v σ' F' H' (s.trans e)
/-- what the context of a def's body grants, ahead of Rdy -/
structure RdyS (X : Cx) (G : Ctx) (W : WX) (io : Bool) : Prop extends Rdy X G W io where
  po : PassesOwn (model X.prog X.w) X.A X.env X.xe

section
variable {X : Cx} {G : Ctx} {W : WX} {cf : CF} {wf : Nat} {io : Bool} {a b c e tg : Expr} {r r1 r2 r3 : E} {pos p p2 p3 : Pos} {st : Stmt} {rest body els : List Stmt} {q1 q2 : S} {z z1 z2 : Ss}
theorem evSs_nil {fr : Fr} : evSs cf wf io .nil fr = .ok (fr, .nx) := by rw [evSs]
theorem evSs_cons {s : S} {r : Ss} {fr : Fr} : evSs cf wf io (.cons s r) fr = Res.bind (evS cf wf io s fr) fun (f, o) => match o with
    | .nx => evSs cf wf io r f
    | o => .ok (f, o) := by rw [evSs]; first | done | rfl
theorem pss_no : PSs X [] (tS G W (evSs cf wf io .nil)) := PSs.imp pss_nil fun D σ H hq => by
  obtain ⟨F, fr, ts, hF, hq⟩ := hq
  rw [evSs_nil] at hq
  exact hq σ F H (Same.refl _) hF
theorem pss_st (h1 : PS X st (tS G W (evS cf wf io q1))) (h2 : PSs X rest (tS G W (evSs cf wf io z))) : PSs X (st :: rest) (tS G W (evSs cf wf io (.cons q1 z))) := PSs.imp (pss_cons h1 h2) fun D σ H hq => by
  obtain ⟨F, fr, ts, hF, hq⟩ := hq
  refine ⟨F, fr, ts, hF, ?_⟩
  rw [evSs_cons] at hq
  cases q : evS cf wf io q1 fr with
  | stuck => rw [q] at hq; exact hq
  | raise c => rw [q] at hq; exact hq
  | ok p =>
    obtain ⟨f, o⟩ := p
    rw [q, Res.bind_ok] at hq
    cases o with
    | nx =>
      dsimp only at hq
      intro σ' F' H' s1 h1
      refine ⟨F', f, ts, h1, ?_⟩
      cases q2 : evSs cf wf io z f with
      | stuck => rw [q2] at hq; exact hq
      | raise c => rw [q2] at hq; exact hq
      | ok p2 =>
        rw [q2] at hq
        exact okS.weak hq s1
    | brk => exact hq
    | ct => exact hq
    | rt v => exact hq
theorem evS_pass {fr : Fr} : evS cf wf io .pass fr = .ok (fr, .nx) := by rw [evS]
theorem evS_brk {fr : Fr} : evS cf wf io .brk fr = .ok (fr, .brk) := by rw [evS]
theorem evS_cont {fr : Fr} : evS cf wf io .cont fr = .ok (fr, .ct) := by rw [evS]
theorem evS_retN {fr : Fr} : evS cf wf io .retN fr = .ok (fr, .rt (.val .none)) := by rw [evS]
theorem evS_raise {c : Str} {fr : Fr} : evS cf wf io (.raise c) fr = .raise c := by rw [evS]
theorem evS_ret {e : E} {fr : Fr} : evS cf wf io (.ret e) fr = retOf io (isVar e) fr (evE cf io e fr) := by rw [evS]
theorem evS_expr {e : E} {fr : Fr} : evS cf wf io (.expr e) fr = Res.bind (evE cf io e fr) fun (f, _) => .ok (f, .nx) := by rw [evS]
theorem evS_asg {tg : T} {e : E} {fr : Fr} : evS cf wf io (.asg tg e) fr = Res.bind (evE cf io e fr) fun (f, s) => Res.bind (asgT io f tg s) fun g => .ok (g, .nx) := by rw [evS]
theorem evS_ife {e : E} {fr : Fr} : evS cf wf io (.ife e z1 z2) fr = Res.bind (evB cf io e fr) fun (f, t) => if t then evSs cf wf io z1 f else evSs cf wf io z2 f := by
  rw [evS]; unfold evB
  cases evE cf io e fr with
  | stuck => rfl
  | raise c => rfl
  | ok p =>
    obtain ⟨f, s⟩ := p
    simp only [Res.bind_ok]
    cases toB s <;> rfl
theorem evS_for {tg : T} {it : I} {fr : Fr} : evS cf wf io (.for_ tg it z) fr = Res.bind (evI cf io it fr) fun (f, xs) => forLoop (fun g d => Res.bind (asgT io g tg (.val d)) fun g1 => evSs cf wf io z g1) xs f := by rw [evS]
theorem evS_whl {e : E} {fr : Fr} : evS cf wf io (.whl e z) fr = whLoop (evB cf io e) (fun f => evSs cf wf io z f) wf fr := by rw [evS]; first | done | rfl
theorem evS_par {is : List Nat} {es : Es} {fr : Fr} : evS cf wf io (.par is es) fr = Res.bind (evL cf io false es fr) fun (f, as) => Res.bind (.ofOpt (svs as)) fun ss => Res.bind (putAll io f is ss) fun g => .ok (g, .nx) := by rw [evS]
theorem ps_pass' : PS X (.Pass pos) (tS G W (evS cf wf io .pass)) := PS.imp ps_pass fun D σ H hq => by
  obtain ⟨F, fr, ts, hF, hq⟩ := hq
  rw [evS_pass] at hq
  exact hq σ F H (Same.refl _) hF
theorem ps_brk' : PS X (.Break pos) (tS G W (evS cf wf io .brk)) := PS.imp ps_break fun D σ H hq => by
  obtain ⟨F, fr, ts, hF, hq⟩ := hq
  rw [evS_brk] at hq
  exact hq σ F H (Same.refl _) hF
theorem ps_cont' : PS X (.Continue pos) (tS G W (evS cf wf io .cont)) := PS.imp ps_continue fun D σ H hq => by
  obtain ⟨F, fr, ts, hF, hq⟩ := hq
  rw [evS_cont] at hq
  exact hq σ F H (Same.refl _) hF
theorem ps_retN' : PS X (.Return none pos) (tS G W (evS cf wf io .retN)) := PS.imp ps_retN fun D σ H hq => by
  obtain ⟨F, fr, ts, hF, hq⟩ := hq
  rw [evS_retN] at hq
  exact hq .non σ F H (Same.refl _) ⟨.non, hF⟩
theorem ps_expr' (h : PE X e (tE G W (evE cf io r))) (hs : swapsWith e none pos.line X.env = pure false) : PS X (.Expr e pos) (tS G W (evS cf wf io (.expr r))) := PS.imp (ps_expr h hs) fun D σ H hq => by
  obtain ⟨F, fr, ts, hF, hq⟩ := hq
  refine ⟨F, fr, ts, hF, ?_⟩
  rw [evS_expr] at hq
  cases q : evE cf io r fr with
  | stuck => rw [q] at hq; exact hq
  | raise c => rw [q] at hq; exact hq σ
  | ok p =>
    obtain ⟨f, s⟩ := p
    rw [q, Res.bind_ok] at hq
    intro v F' H' s1 hv
    cases s with
    | val d => exact hq σ F' H' s1 hv.2
    | own d => obtain ⟨a, _, h⟩ := hv; exact hq σ F' H' s1 h.drop1
/-- what return hands back: a name's own object leaves its slot -/
theorem FOk.give {σ : L2.St} {F H : Hp} {fr : Fr} {ts : List (Addr × D)} {i : Nat} {d : D} {a : Addr} (h : FOk G σ F H fr ts) (e : getS fr i = some (.own d)) (ha : σ[i]? = some (some (.ref a))) (hio : G.io = none ∨ i ≠ 0) : FOk G σ F H (fr.set i none) ((a, d) :: ts) := by
  obtain ⟨a', ha', ho⟩ := h.own_at e
  rw [ha] at ha'; cases ha'
  have gs : ∀ j s, getS (fr.set i none) j = some s → i ≠ j ∧ getS fr j = some s := fun j s q => by
    by_cases hj : i = j
    · subst hj
      unfold getS at q
      rw [List.getElem?_set_self (getS_lt e)] at q; cases q
    · rw [getS_set_ne hj] at q; exact ⟨hj, q⟩
  have nio : G.io ≠ some a := fun z => by
    have := h.ios i _ a e ha z
    rcases hio with q | q
    · rw [q] at z; cases z
    · exact q this
  refine ⟨by rw [List.length_set]; exact h.len, fun j s q => h.slot j s (gs j s q).2, fun j k b d' e' q1 q2 => h.inj j k b d' e' (gs j _ q1).2 (gs k _ q2).2, fun p hp => ?_, ?_, fun p hp j d' q => ?_, h.sub, h.base, h.keep, h.new, h.pin, fun p hp => ?_, fun b z => ?_, fun j d' b q => h.ios j d' b (gs j _ q).2, h.tab, h.fnt⟩
  · rcases List.mem_cons.mp hp with rfl | hp
    · exact ho
    · exact h.tmp p hp
  · rw [List.map_cons, List.nodup_cons]
    refine ⟨fun hm => ?_, h.tnd⟩
    obtain ⟨q, hq, e'⟩ := List.mem_map.mp hm
    exact h.dj q hq i d e (by rw [e']; exact ha)
  · obtain ⟨hj, q⟩ := gs j _ q
    rcases List.mem_cons.mp hp with rfl | hp
    · exact fun z => hj (h.inj i j _ _ _ e q ha z)
    · exact h.dj p hp j d' q
  · rcases List.mem_cons.mp hp with rfl | hp
    · exact nio
    · exact h.tio p hp
  · obtain ⟨d', q⟩ := h.ioc b z
    refine ⟨d', ?_⟩
    rw [getS_set_ne (fun w => ?_)]
    · exact q
    · rcases hio with w' | w'
      · rw [w'] at z; cases z
      · exact w' w
theorem ps_ret' (hio : io = false → G.io = none) (h : SE X G W cf io e r) : PS X (.Return (some e) pos) (tS G W (evS cf wf io (.ret r))) := by
  cases hv : isVar r with
  | none =>
    refine PS.imp (ps_ret h.pe) fun D σ H hq => ?_
    obtain ⟨F, fr, ts, hF, hq⟩ := hq
    refine ⟨F, fr, ts, hF, ?_⟩
    rw [evS_ret, hv] at hq
    unfold retOf at hq
    cases q : evE cf io r fr with
    | stuck => rw [q] at hq; exact hq
    | raise c => rw [q] at hq; exact hq σ
    | ok p =>
      obtain ⟨f, s⟩ := p
      rw [q] at hq; dsimp only at hq; rw [Res.bind_ok] at hq
      intro v F' H' s1 hs
      cases s with
      | val d => exact hq v σ F' H' s1 hs
      | own d => exact hq v σ F' H' s1 hs
  | some i =>
    refine PS.imp (ps_ret h.po) fun D σ H hq => ?_
    obtain ⟨F, fr, ts, hF, hq⟩ := hq
    refine ⟨F, fr, ts, hF, ?_⟩
    rw [evS_ret, hv] at hq
    have eO : evO cf io true r fr = (match getS fr i with | some _ => .ok (fr, AV.bor i) | none => .stuck) := by
      unfold evO; rw [hv]; rfl
    rw [eO]
    unfold retOf at hq
    dsimp only at hq
    cases q : getS fr i with
    | none => rw [q] at hq; exact hq
    | some s =>
      rw [q] at hq
      intro vs F1 H1 t1 s1 a1 h1 v ev
      subst ev
      cases a1 with
      | bor hv1 a2 =>
        cases a2
        cases s with
        | val d =>
          obtain ⟨u, hu, hd⟩ := h1.slot i _ q
          rw [hv1] at hu; cases hu
          exact hq v σ F1 H1 s1 ⟨hd, h1⟩
        | own d =>
          dsimp only at hq
          obtain ⟨a, ha, ho⟩ := h1.own_at q
          rw [hv1] at ha; cases ha
          by_cases hc : (io && i == 0) = true
          · rw [if_pos hc] at hq; exact hq.elim
          · rw [if_neg hc] at hq
            exact hq _ σ F1 H1 s1 ⟨a, rfl, FOk.give h1 q hv1 (io_no hio (by simpa using hc))⟩
theorem ps_if' {e : Expr} (h : SE X G W cf io e r) (h1 : PSs X body (tS G W (evSs cf wf io z1))) (h2 : PSs X els (tS G W (evSs cf wf io z2))) : PS X (.If e body els pos) (tS G W (evS cf wf io (.ife r z1 z2))) :=
  PS.imp (ps_if h.pt h1 h2) fun D σ H hq => by
    obtain ⟨F, fr, ts, hF, hq⟩ := hq
    refine ⟨F, fr, ts, hF, ?_⟩
    rw [evS_ife] at hq
    cases q : evB cf io r fr with
    | stuck => rw [q] at hq; exact hq
    | raise c => rw [q] at hq; exact hq σ
    | ok p =>
      obtain ⟨f, t⟩ := p
      rw [q, Res.bind_ok] at hq
      dsimp only at hq ⊢
      intro F1 H1 s1 h1
      cases t with
      | true =>
        rw [if_pos rfl] at hq ⊢
        refine ⟨F1, f, ts, h1, ?_⟩
        cases q2 : evSs cf wf io z1 f with
        | stuck => rw [q2] at hq; exact hq
        | raise c => rw [q2] at hq; exact hq
        | ok p2 => rw [q2] at hq; exact okS.weak hq s1
      | false =>
        rw [if_neg Bool.false_ne_true] at hq ⊢
        refine ⟨F1, f, ts, h1, ?_⟩
        cases q2 : evSs cf wf io z2 f with
        | stuck => rw [q2] at hq; exact hq
        | raise c => rw [q2] at hq; exact hq
        | ok p2 => rw [q2] at hq; exact okS.weak hq s1
/-- the store of a result -/
theorem asg_of {tT : T} {σ : L2.St} {H : Hp} {D : Ends} (hq : tS G W (evS cf wf io (.asg tT r)) D σ H) : tAsg (tE G W (evE cf io r)) (gT G io tT) D σ H := by
  obtain ⟨F, fr, ts, hF, hq⟩ := hq
  refine ⟨F, fr, ts, hF, ?_⟩
  rw [evS_asg] at hq
  cases q : evE cf io r fr with
  | stuck => rw [q] at hq; exact hq
  | raise c => rw [q] at hq; exact hq σ
  | ok p =>
    obtain ⟨f, s⟩ := p
    rw [q, Res.bind_ok] at hq
    dsimp only at hq ⊢
    intro v F1 H1 s1 hv
    refine ⟨F1, f, ts, s, ?_, ?_⟩
    · cases s <;> exact hv
    · cases q2 : asgT io f tT s with
      | stuck => rw [q2] at hq; exact hq.elim
      | raise c =>
        exfalso
        have pa : ∀ (is : List Nat) (ss : List SV) (fr : Fr), putAll io fr is ss ≠ .raise c := by
          intro is
          induction is with
          | nil => intro ss fr; cases ss <;> (intro z; simp [putAll] at z)
          | cons i is ih =>
            intro ss fr
            cases ss with
            | nil => intro z; simp [putAll] at z
            | cons s ss =>
              rw [putAll]
              cases q1 : put1 io fr i s with
              | stuck => intro z; cases z
              | raise c => exact absurd q1 put1_nr
              | ok f1 => rw [Res.bind_ok]; exact ih ss f1
        unfold asgT at q2
        split at q2
        · exact put1_nr q2
        · exact pa _ _ _ q2
        · cases q2
      | ok g =>
        rw [q2, Res.bind_ok] at hq
        exact fun σ' h' _ _ => hq σ' F1 H1 s1 h'
theorem ps_asg' {tT : T} (h : PE X e (tE G W (evE cf io r))) (hg : PG X tg (gT G io tT)) (hs : swapsWithSole [tg] e pos.line X.env = pure false) (hw : swappedStores [tg] e X.env = pure none) (h1 : (assignEach [tg] X.env).map (·.2) = [assign tg X.env]) :
    PS X (.Assign [tg] e pos) (tS G W (evS cf wf io (.asg tT r))) := PS.imp (ps_asg h hg hs hw h1) fun D σ H hq => asg_of hq
theorem gT_nm {i : Nat} {v : V} {σ : L2.St} {H : Hp} {Q : L2.St → Hp → Prop} (hio : io = false → G.io = none) (h : gT G io (.nm i) v σ H Q) : gName i v σ H Q := by
  obtain ⟨F, fr, ts, s, hv, hq⟩ := h
  rw [asgT] at hq
  cases q : put1 io fr i s with
  | stuck => rw [q] at hq; exact hq.elim
  | raise c => rw [q] at hq; exact hq.elim
  | ok f =>
    rw [q] at hq
    refine hq _ (hv.put hio q) (by rw [List.length_set]) fun j hj => ?_
    simp only [tSlots, List.mem_singleton] at hj
    rw [List.getElem?_set_ne (Ne.symm hj)]
/-- name = [.. for ..] on the name's own line -/
theorem ps_lcSet {i : Nat} {y : Str} {py spos : Pos} {elt tg iter : Expr} {ifs : List Expr} {scope : Scope} {own : List (Str × Nat)} {rI : I} {rT : T} {rIfs : Es} {vs : List Nat} (R : Rdy X G W io) (hy : X.N[i]? = some y) (hyl : X.env.scope.names.lookup y = some .local)
    (hsw : swapsWith (.ListComp elt [⟨tg, iter, ifs, 0⟩] scope pos) (some (.Name y py)) spos.line X.env = pure true) (hi : PI X tg iter (tI G W (evI cf io rI))) (ok : BlkOk X.N X.env.scope scope own) (hvs : own.map (·.2) = vs) (hsl : ∀ i ∈ tSlots rT, i ∈ vs)
    (hg : ∀ (s : Shared) (H : Hp) (C : Addr) (cl : List (Str × Addr)) (fp : List Addr), PG (X.blk s H scope (compEnvC scope cl C X.env) fp) tg (gT G io rT))
    (ht : ∀ (s : Shared) (H : Hp) (C : Addr) (cl : List (Str × Addr)) (fp : List Addr), PTs (X.blk s H scope (compEnvC scope cl C X.env) fp) ifs (tT G W0 (evTs cf io rIfs)))
    (he : ∀ (s : Shared) (H : Hp) (C : Addr) (cl : List (Str × Addr)) (fp : List Addr), PE (X.blk s H scope (compEnvC scope cl C X.env) fp) elt (tE G W0 (evE cf io r))) (hs : ∀ x, foldedSetIterable iter X.env x = pure x) :
    PS X (.Assign [.Name y py] (.ListComp elt [⟨tg, iter, ifs, 0⟩] scope pos) spos) (tS G W (evS cf wf io (.asg (.nm i) (.lc r rT rI rIfs vs)))) := by
  subst hvs
  refine PS.imp (ps_setLc R.hc R.nd hy hyl hsw hi ok hg ht he hs) fun D σ H hq => ?_
  have h1 := asg_of hq
  have h2 : tE G W (evE cf io (.lc r rT rI rIfs (own.map (·.2)))) σ H fun x H1 => gName i x σ H1 D.nx := by
    obtain ⟨F, fr, ts, hF, h1⟩ := h1
    refine ⟨F, fr, ts, hF, ?_⟩
    split at h1
    · exact fun v F' H' s1 hs => gT_nm R.hio (h1 v F' H' s1 hs)
    · exact h1
    · exact h1
  exact tLc_of hsl h2
end
end PP

namespace PP
open PySem PySem.Spec PyProof.Rows
open L2

section
variable {X : Cx} {G : Ctx} {W : WX} {cf : CF} {wf : Nat} {io : Bool} {a b c e tg : Expr} {r r1 r2 r3 : E} {pos p p2 p3 : Pos} {st : Stmt} {rest body els : List Stmt} {q1 q2 : S} {z z1 z2 : Ss}
/-! ### loops -/
theorem ps_for' {rI : I} {rT : T} (R : RdyS X G W io) (hi : PI X tg e (tI G W (evI cf io rI))) (hg : PG X tg (gT G io rT)) (hb : PSs X body (tS G W (evSs cf wf io z))) (hs : ∀ x, foldedSetIterable e X.env x = pure x) :
    PS X (.For tg e body [] pos) (tS G W (evS cf wf io (.for_ rT rI z))) := PS.imp (ps_for R.po R.hc hi hg hb hs) fun D σ H hq => by
  obtain ⟨F, fr, ts, hF, hq⟩ := hq
  refine ⟨F, fr, ts, hF, ?_⟩
  rw [evS_for] at hq
  cases q : evI cf io rI fr with
  | stuck => rw [q] at hq; exact hq
  | raise c => rw [q] at hq; exact hq σ
  | ok p =>
    obtain ⟨f, xs⟩ := p
    rw [q, Res.bind_ok] at hq
    dsimp only at hq ⊢
    intro J F2 H2 s2 h2 k
    refine ⟨fun i m σ H => m = xs.length - i ∧ i ≤ xs.length ∧ ∃ F fr, Same F2 F ∧ FOk G σ F H fr ts ∧ match forLoop (fun g d => Res.bind (asgT io g rT (.val d)) fun g1 => evSs cf wf io z g1) (xs.drop i) fr with
        | .ok (f, o) => okS G F2 f ts D o
        | .raise c => okXS G W c
        | .stuck => False, ⟨xs.length, by simp, Nat.zero_le _, F2, f, Same.refl _, h2, ?_⟩, ?_⟩
    · rw [List.drop_zero]
      cases qf : forLoop (fun g d => Res.bind (asgT io g rT (.val d)) fun g1 => evSs cf wf io z g1) xs f with
      | stuck => rw [qf] at hq; exact hq.elim
      | raise c => rw [qf] at hq; exact hq
      | ok p9 => rw [qf] at hq; exact okS.weak hq s2
    · rintro i m σ1 H1 ⟨rfl, hi, F3, fr3, s3, h3, hr⟩
      by_cases hlt : i < xs.length
      · refine .inr ⟨k.go i H1 hlt (s3.trans h3.sub), _, fun σ' H' n => ⟨xs.length - (i + 1), by omega, n⟩, fun x H' y => ?_⟩
        have ed : xs.drop i = xs[i] :: xs.drop (i + 1) := by rw [List.drop_eq_getElem_cons hlt]
        rw [ed, forLoop] at hr
        obtain ⟨F4, s4, h4, d4⟩ := k.take (List.getElem?_eq_getElem hlt) y s3 h3
        refine ⟨F4, fr3, _, .val xs[i], ⟨d4, h4⟩, ?_⟩
        cases q1 : asgT io fr3 rT (.val xs[i]) with
        | stuck => rw [q1] at hr; exact hr.elim
        | raise c =>
          exfalso
          have pa : ∀ (is : List Nat) (ss : List SV) (fr : Fr), putAll io fr is ss ≠ .raise c := by
            intro is
            induction is with
            | nil => intro ss fr; cases ss <;> (intro z; simp [putAll] at z)
            | cons i is ih =>
              intro ss fr
              cases ss with
              | nil => intro z; simp [putAll] at z
              | cons s ss =>
                rw [putAll]
                cases q1 : put1 io fr i s with
                | stuck => intro z; cases z
                | raise c => exact absurd q1 put1_nr
                | ok f1 => rw [Res.bind_ok]; exact ih ss f1
          unfold asgT at q1
          split at q1
          · exact put1_nr q1
          · exact pa _ _ _ q1
          · cases q1
        | ok g1 =>
          rw [q1, Res.bind_ok] at hr
          intro σ' h5 l5 a5
          refine ⟨F4, g1, ts, h5, ?_⟩
          cases q6 : evSs cf wf io z g1 with
          | stuck => rw [q6] at hr; exact hr
          | raise c => rw [q6] at hr; exact hr
          | ok p6 =>
            obtain ⟨f6, o6⟩ := p6
            rw [q6, Res.bind_ok] at hr
            dsimp only at hr ⊢
            cases o6 with
            | nx =>
              intro σ7 F7 H7 s7 h7
              exact ⟨rfl, hlt, F7, f6, (s3.trans s4).trans s7, h7, hr⟩
            | ct =>
              intro σ7 F7 H7 s7 h7
              exact ⟨rfl, hlt, F7, f6, (s3.trans s4).trans s7, h7, hr⟩
            | brk =>
              intro σ7 F7 H7 s7 h7
              exact hr σ7 F7 H7 ((s3.trans s4).trans s7) h7
            | rt v =>
              intro v' σ7 F7 H7 s7 h7
              exact hr v' σ7 F7 H7 ((s3.trans s4).trans s7) h7
      · have e : i = xs.length := by omega
        subst e
        rw [List.drop_length] at hr
        exact .inl ⟨k.stop H1 (s3.trans h3.sub), hr σ1 F3 H1 s3 h3⟩
theorem ps_whl' (R : RdyS X G W io) (h : SE X G W cf io e r) (hb : PSs X body (tS G W (evSs cf wf io z))) : PS X (.While e body [] pos) (tS G W (evS cf wf io (.whl r z))) := PS.imp (ps_while R.po h.pt hb) fun D σ H hq => by
  obtain ⟨F, fr, ts, hF, hq⟩ := hq
  rw [evS_whl] at hq
  refine ⟨fun m σ H => ∃ F' fr', Same F F' ∧ FOk G σ F' H fr' ts ∧ match whLoop (evB cf io r) (fun f => evSs cf wf io z f) m fr' with
      | .ok (f, o) => okS G F f ts D o
      | .raise c => okXS G W c
      | .stuck => False, ⟨wf, F, fr, Same.refl _, hF, hq⟩, ?_⟩
  rintro m σ1 H1 ⟨F1, fr1, s1, h1, hr⟩
  refine ⟨F1, fr1, ts, h1, ?_⟩
  cases m with
  | zero => rw [whLoop] at hr; exact hr.elim
  | succ m =>
    rw [whLoop] at hr
    cases q : evB cf io r fr1 with
    | stuck => rw [q] at hr; exact hr
    | raise c => rw [q] at hr; exact hr σ1
    | ok p =>
      obtain ⟨f, t⟩ := p
      rw [q, Res.bind_ok] at hr
      dsimp only at hr ⊢
      intro F2 H2 s2 h2
      cases t with
      | false =>
        rw [if_neg Bool.false_ne_true] at hr ⊢
        exact hr σ1 F2 H2 (s1.trans s2) h2
      | true =>
        rw [if_pos rfl] at hr ⊢
        refine ⟨_, fun σ' H' n => ⟨m, Nat.lt_succ_self m, n⟩, F2, f, ts, h2, ?_⟩
        cases q6 : evSs cf wf io z f with
        | stuck => rw [q6] at hr; exact hr
        | raise c => rw [q6] at hr; exact hr
        | ok p6 =>
          obtain ⟨f6, o6⟩ := p6
          rw [q6, Res.bind_ok] at hr
          dsimp only at hr ⊢
          cases o6 with
          | nx =>
            intro σ7 F7 H7 s7 h7
            exact ⟨F7, f6, (s1.trans s2).trans s7, h7, hr⟩
          | ct =>
            intro σ7 F7 H7 s7 h7
            exact ⟨F7, f6, (s1.trans s2).trans s7, h7, hr⟩
          | brk =>
            intro σ7 F7 H7 s7 h7
            exact hr σ7 F7 H7 ((s1.trans s2).trans s7) h7
          | rt v =>
            intro v' σ7 F7 H7 s7 h7
            exact hr v' σ7 F7 H7 ((s1.trans s2).trans s7) h7

/-! ### x, y = a, b -/
inductive SvsOk (K : PySem.W.Frag) (F : Hp) : List V → List SV → List (Addr × D) → Prop
  | nil : SvsOk K F [] [] []
  | val {v vs d ss ts} : Dp K F v d → SvsOk K F vs ss ts → SvsOk K F (v :: vs) (.val d :: ss) ts
  | own {a vs d ss ts} : SvsOk K F vs ss ts → SvsOk K F (.ref a :: vs) (.own d :: ss) ((a, d) :: ts)
theorem svs_ok {K : PySem.W.Frag} {F : Hp} {σ : L2.St} : ∀ {vs : List V} {as : List AV} {ts : List (Addr × D)} {ss : List SV}, AvsOk K F σ vs as ts → svs as = some ss → SvsOk K F vs ss ts
  | _, _, _, ss, .nil, e => by simp [svs] at e; subst e; exact .nil
  | _, _, _, ss, .val hd t, e => by
    simp only [svs, Option.map_eq_some_iff] at e
    obtain ⟨es, e1, rfl⟩ := e
    exact .val hd (svs_ok t e1)
  | _, _, _, ss, .own t, e => by
    simp only [svs, Option.map_eq_some_iff] at e
    obtain ⟨es, e1, rfl⟩ := e
    exact .own (svs_ok t e1)
  | _, _, _, ss, .bor _ _, e => by simp [svs] at e
def setAll : L2.St → List Nat → List V → L2.St
  | σ, i :: is, v :: vs => setAll (σ.set i (some v)) is vs
  | σ, _, _ => σ
theorem putAll_ok (hio : io = false → G.io = none) {F H : Hp} {ts : List (Addr × D)} : ∀ {is : List Nat} {vs : List V} {ss : List SV} {ts' : List (Addr × D)} {σ : L2.St} {fr g : Fr}, SvsOk G.K F vs ss ts' → FOk G σ F H fr (ts' ++ ts) → putAll io fr is ss = .ok g → FOk G (setAll σ is vs) F H g ts
  | [], _, _, _, σ, fr, g, .nil, h, e => by simp [putAll] at e; subst e; exact h
  | [], _, _, _, σ, fr, g, .val _ _, h, e => by simp [putAll] at e
  | [], _, _, _, σ, fr, g, .own _, h, e => by simp [putAll] at e
  | _ :: _, _, _, _, σ, fr, g, .nil, h, e => by simp [putAll] at e
  | i :: is, _, _, _, σ, fr, g, .val (v := v) (d := d) hd t, h, e => by
    rw [putAll] at e
    cases q1 : put1 io fr i (.val d) with
    | stuck => rw [q1] at e; cases e
    | raise c => exact absurd q1 put1_nr
    | ok f1 =>
      rw [q1, Res.bind_ok] at e
      show FOk G (setAll (σ.set i (some v)) is _) F H g ts
      exact putAll_ok hio t (HasV.put (s := .val d) hio ⟨hd, h⟩ q1) e
  | i :: is, _, _, _, σ, fr, g, .own (a := a) (d := d) t, h, e => by
    rw [putAll] at e
    cases q1 : put1 io fr i (.own d) with
    | stuck => rw [q1] at e; cases e
    | raise c => exact absurd q1 put1_nr
    | ok f1 =>
      rw [q1, Res.bind_ok] at e
      show FOk G (setAll (σ.set i (some (.ref a))) is _) F H g ts
      exact putAll_ok hio t (HasV.put (s := .own d) hio ⟨a, rfl, h⟩ q1) e
theorem putAll_nr {is : List Nat} {c : Str} : ∀ {ss : List SV} {fr : Fr}, putAll io fr is ss ≠ .raise c := by
  induction is with
  | nil => intro ss fr; cases ss <;> (intro z; simp [putAll] at z)
  | cons i is ih =>
    intro ss fr
    cases ss with
    | nil => intro z; simp [putAll] at z
    | cons s ss =>
      rw [putAll]
      cases q1 : put1 io fr i s with
      | stuck => intro z; cases z
      | raise c => exact absurd q1 put1_nr
      | ok f1 => rw [Res.bind_ok]; exact ih
theorem svs_len : ∀ {as : List AV} {ss : List SV}, svs as = some ss → as.length = ss.length
  | [], ss, h => by simp [svs] at h; subst h; rfl
  | .sv s :: r, ss, h => by
    simp only [svs, Option.map_eq_some_iff] at h
    obtain ⟨d, h2, rfl⟩ := h
    rw [List.length_cons, List.length_cons, svs_len h2]
  | .bor i :: r, ss, h => by simp [svs] at h
theorem par_of {is : List Nat} {es : List Expr} {rs : Es} (hs : SEs' X G W cf io es rs) (hio : io = false → G.io = none) {D : Ends} {σ : L2.St} {H : Hp} (hq : tS G W (evS cf wf io (.par is rs)) D σ H) :
    tL G W (evL cf io false rs) σ H fun vs H1 => vs.length = es.length ∧ D.nx (setAll σ is vs) H1 := by
  obtain ⟨F, fr, ts, hF, hq⟩ := hq
  refine ⟨F, fr, ts, hF, ?_⟩
  rw [evS_par] at hq
  cases q : evL cf io false rs fr with
  | stuck => rw [q] at hq; exact hq
  | raise c => rw [q] at hq; exact hq σ
  | ok p =>
    obtain ⟨f, as⟩ := p
    rw [q, Res.bind_ok] at hq
    dsimp only at hq ⊢
    cases q2 : svs as with
    | none => rw [q2] at hq; exact hq.elim
    | some ss =>
      rw [q2, Res.ofOpt_some, Res.bind_ok] at hq
      cases q3 : putAll io f is ss with
      | stuck => rw [q3] at hq; exact hq.elim
      | raise c => exact absurd q3 putAll_nr
      | ok g =>
        rw [q3, Res.bind_ok] at hq
        intro vs F1 H1 t1 s1 a1 h1
        exact ⟨by rw [avs_len a1, evL_len hs.plain q], hq _ F1 H1 s1 (putAll_ok hio (svs_ok a1 q2) h1 q3)⟩
theorem ps_par2 {i j : Nat} {x y : Str} {px py pt : Pos} {kt k2 pt2} {rs : Es} (R : Rdy X G W io) (hi : X.N[i]? = some x) (hj : X.N[j]? = some y) (hij : i ≠ j)
    (hx : X.env.scope.names.lookup x = some .local) (hy : X.env.scope.names.lookup y = some .local) (h : SEs' X G W cf io [a, b] rs)
    (hw : swappedStores [.Tuple [.Name x px, .Name y py] kt pt] (.Tuple [a, b] k2 pt2) X.env = pure (some [x, y])) :
    PS X (.Assign [.Tuple [.Name x px, .Name y py] kt pt] (.Tuple [a, b] k2 pt2) pos) (tS G W (evS cf wf io (.par [i, j] rs))) :=
  PS.imp (ps_par R.hc R.nd hi hj hij hx hy (pa_of (b := false) h.plain) hw) fun D σ H hq => by
    obtain ⟨F, fr, ts, hF, hq⟩ := par_of h R.hio hq
    refine ⟨F, fr, ts, hF, ?_⟩
    split at hq
    · intro vs F1 H1 t1 s1 a1 h1
      obtain ⟨hl, hq⟩ := hq vs F1 H1 t1 s1 a1 h1
      match vs, hl, hq with
      | [v, w], _, hq => exact ⟨v, w, rfl, hq⟩
    · exact hq
    · exact hq
theorem ps_par3' {i j l : Nat} {x y w : Str} {px py pw pt : Pos} {kt k2 pt2} {rs : Es} (R : Rdy X G W io) (hi : X.N[i]? = some x) (hj : X.N[j]? = some y) (hl : X.N[l]? = some w) (hij : i ≠ j) (hil : i ≠ l) (hjl : j ≠ l)
    (hx : X.env.scope.names.lookup x = some .local) (hy : X.env.scope.names.lookup y = some .local) (hw' : X.env.scope.names.lookup w = some .local) (h : SEs' X G W cf io [a, b, c] rs)
    (hw : swappedStores [.Tuple [.Name x px, .Name y py, .Name w pw] kt pt] (.Tuple [a, b, c] k2 pt2) X.env = pure (some [x, y, w])) :
    PS X (.Assign [.Tuple [.Name x px, .Name y py, .Name w pw] kt pt] (.Tuple [a, b, c] k2 pt2) pos) (tS G W (evS cf wf io (.par [i, j, l] rs))) :=
  PS.imp (ps_par3 R.hc R.nd hi hj hl hij hil hjl hx hy hw' (pa_of (b := false) h.plain) hw) fun D σ H hq => by
    obtain ⟨F, fr, ts, hF, hq⟩ := par_of h R.hio hq
    refine ⟨F, fr, ts, hF, ?_⟩
    split at hq
    · intro vs F1 H1 t1 s1 a1 h1
      obtain ⟨hl, hq⟩ := hq vs F1 H1 t1 s1 a1 h1
      match vs, hl, hq with
      | [u, v, w], _, hq => exact ⟨u, v, w, rfl, hq⟩
    · exact hq
    · exact hq

/-! ### stores into lists -/
theorem evS_app {i : Nat} {e : E} {fr : Fr} : evS cf wf io (.app i e) fr = match getS fr i with
    | some (.own (.list _)) => Res.bind (evE cf io e fr) fun (f, s) => Res.bind (.ofOpt (frz s)) fun y => match getS f i with
      | some (.own (.list xs)) => if xs.length < line then .ok (f.set i (some (.own (.list (xs ++ [y])))), .nx) else .stuck
      | _ => .stuck
    | _ => .stuck := by rw [evS]; first | done | rfl
theorem evS_setI {i : Nat} {k e : E} {fr : Fr} : evS cf wf io (.setI i k e) fr = Res.bind (evE cf io e fr) fun (f, s) => Res.bind (.ofOpt (frz s)) fun y => match getS f i with
    | some (.own (.list _)) => Res.bind (evL cf io true (.cons k .nil) f) fun (g, as) => Res.bind (.ofOpt (conts g as)) fun ks => match getS g i, ks with
      | some (.own (.list xs)), [.int j] => (match ixP xs.length j with
        | some n => .ok (g.set i (some (.own (.list (xs.set n y)))), .nx)
        | none => .stuck)
      | _, _ => .stuck
    | _ => .stuck := by rw [evS]; first | done | rfl
theorem line_eq : line = sizeLine := by rw [sizeLine_eq]; rfl
/-- the name's object as an operand -/
theorem own_read {i : Nat} {σ : L2.St} {F H : Hp} {fr : Fr} {ts : List (Addr × D)} {Q : VK} {xs : List D} (h : FOk G σ F H fr ts) (q : getS fr i = some (.own (.list xs)))
    (k : ∀ a F1 H1, Same F F1 → FOk G σ F1 H1 fr ts → σ[i]? = some (some (.ref a)) → Q (.ref a) H1) : tO G W (evO cf io true (.var i)) σ H Q := by
  refine ⟨F, fr, ts, h, ?_⟩
  have eO : evO cf io true (.var i) fr = (match getS fr i with | some _ => .ok (fr, AV.bor i) | none => .stuck) := rfl
  rw [eO, q]
  intro vs F1 H1 t1 s1 a1 h1 v ev
  subst ev
  cases a1 with
  | bor hv1 a2 =>
    cases a2
    obtain ⟨a, ha, ho⟩ := h1.own_at q
    rw [hv1] at ha; cases ha
    exact k a F1 H1 s1 h1 hv1
theorem ps_app {i : Nat} {x : Str} {apos cpos : Pos} (hK : G.K = X.K) (hv : SE X G W cf io (.Name x p) (.var i)) (h : SE' X G W cf io e r) (hline : (apos.endLine == cpos.line) = true) :
    PS X (.Expr (.Call (.Attribute (.Name x p) "append" apos) [e] [] cpos) pos) (tS G W (evS cf wf io (.app i r))) := by
  have pa : PA X [e] (tCons (tE G W (evE cf io r)) tNil) := pa_cons h.pe pa_nil (h.ns _ _)
  refine PS.imp (ps_expr (pe_bm PySem.F.plainAttrs_list PySem.F.slot_list_append PySem.F.type_list_append mt_append hv.po pa rfl (by rw [h.ns]; rfl) hline (h.ns _ _) rfl)) fun D σ H hq => ?_
  obtain ⟨F, fr, ts, hF, hq⟩ := hq
  rw [evS_app] at hq
  cases q : getS fr i with
  | none => rw [q] at hq; exact hq.elim
  | some s0 =>
    cases s0 with
    | val d => rw [q] at hq; exact hq.elim
    | own d0 =>
      cases d0 with
      | list xs0 =>
        rw [q] at hq
        dsimp only at hq
        refine own_read hF q fun a F1 H1 s1 h1 ha => ?_
        obtain ⟨a', ha', ho⟩ := h1.own_at q
        rw [ha] at ha'; cases ha'
        obtain ⟨vs0, hv0⟩ := ho.2.2.lst
        refine ⟨.inl ⟨rfl, _, SqL.of hv0⟩, F1, fr, ts, h1, ?_⟩
        cases q2 : evE cf io r fr with
        | stuck => rw [q2] at hq; exact hq
        | raise c => rw [q2] at hq; exact hq σ
        | ok p2 =>
          obtain ⟨f, s⟩ := p2
          rw [q2, Res.bind_ok] at hq
          dsimp only at hq
          cases q3 : frz s with
          | none => rw [q3] at hq; exact hq.elim
          | some y =>
            rw [q3, Res.ofOpt_some, Res.bind_ok] at hq
            cases q4 : getS f i with
            | none => rw [q4] at hq; exact hq.elim
            | some s4 =>
              cases s4 with
              | val d => rw [q4] at hq; exact hq.elim
              | own d4 =>
                cases d4 with
                | list xs =>
                  rw [q4] at hq
                  dsimp only at hq
                  by_cases hz : xs.length < line
                  · rw [if_pos hz] at hq
                    intro v F2 H2 s2 hv
                    obtain ⟨F3, s3, h3, d3⟩ := okE.frz hv q3
                    obtain ⟨a2, ha2, ho2⟩ := h3.own_at q4
                    rw [ha] at ha2; cases ha2
                    obtain ⟨vs, hvs, dvs⟩ := ho2.2.2
                    refine ⟨_, vs, v, rfl, rfl, hvs, by rw [dvs.length, ← line_eq]; exact hz, ?_⟩
                    exact hq σ F3 _ ((s1.trans s2).trans s3) (h3.write q4 ha (dvs.append (.cons d3 .nil)))
                  · rw [if_neg hz] at hq; exact hq.elim
                | _ => rw [q4] at hq; exact hq.elim
      | _ => rw [q] at hq; exact hq.elim
theorem ps_setI {i : Nat} {x : Str} {k : Expr} {rk : E} {sp : Pos} (hK : G.K = X.K) (hv : SE X G W cf io (.Name x p) (.var i)) (hk : SE' X G W cf io k rk) (h : SE X G W cf io e r)
    (ha : ∀ v, assign (.Subscript (.Name x p) k sp) X.env v = (do
      let ov ← holding [v] (eval (.Name x p) X.env)
      let iv ← holding [v, ov] (eval k X.env)
      standAt sp
      holding [v, ov, iv] (setItem ov iv v)
      release [v, ov, iv] [])) (hs : swapsWithSole [.Subscript (.Name x p) k sp] e pos.line X.env = pure false) (h1 : (assignEach [.Subscript (.Name x p) k sp] X.env).map (·.2) = [assign (.Subscript (.Name x p) k sp) X.env]) :
    PS X (.Assign [.Subscript (.Name x p) k sp] e pos) (tS G W (evS cf wf io (.setI i rk r))) := by
  refine PS.imp (ps_asg h.pe (pg_sub hv.po hk.po set_list ha) hs rfl h1) fun D σ H hq => ?_
  obtain ⟨F, fr, ts, hF, hq⟩ := hq
  refine ⟨F, fr, ts, hF, ?_⟩
  rw [evS_setI] at hq
  cases q2 : evE cf io r fr with
  | stuck => rw [q2] at hq; exact hq
  | raise c => rw [q2] at hq; exact hq σ
  | ok p2 =>
    obtain ⟨f, s⟩ := p2
    rw [q2, Res.bind_ok] at hq
    dsimp only at hq ⊢
    cases q3 : frz s with
    | none => rw [q3] at hq; exact hq.elim
    | some y =>
      rw [q3, Res.ofOpt_some, Res.bind_ok] at hq
      intro v F2 H2 s2 hv
      obtain ⟨F3, s3, h3, d3⟩ := okE.frz hv q3
      cases q : getS f i with
      | none => rw [q] at hq; exact hq.elim
      | some s0 =>
        cases s0 with
        | val d => rw [q] at hq; exact hq.elim
        | own d0 =>
          cases d0 with
          | list xs0 =>
            rw [q] at hq
            dsimp only at hq
            refine own_read h3 q fun a F4 H4 s4 h4 ha => ?_
            refine tL1 (R := fun iv H5 => rSetL (.ref a) iv v H5 fun H6 => D.nx σ H6) ⟨F4, f, ts, h4, ?_⟩
            cases q5 : evL cf io true (.cons rk .nil) f with
            | stuck => rw [q5] at hq; exact hq
            | raise c => rw [q5] at hq; exact hq σ
            | ok p5 =>
              obtain ⟨g, as⟩ := p5
              rw [q5, Res.bind_ok] at hq
              dsimp only at hq ⊢
              cases q6 : conts g as with
              | none => rw [q6] at hq; exact hq.elim
              | some ks =>
                rw [q6, Res.ofOpt_some, Res.bind_ok] at hq
                intro vs F5 H5 t5 s5 a5 h5 iv ev
                subst ev
                have hr := rd_of a5 (fun p hp => h5.tmp p (List.mem_append_left _ hp)) h5 q6
                have h6 := h5.dropAll
                have kk : ∃ xs j, getS g i = some (.own (.list xs)) ∧ ks = [.int j] := by
                  revert hq
                  cases getS g i with
                  | none => intro hq; exact hq.elim
                  | some s =>
                    cases s with
                    | val d => intro hq; exact hq.elim
                    | own d =>
                      cases d with
                      | list xs =>
                        rcases ks with _ | ⟨k1, _ | ⟨k2, kr⟩⟩
                        · intro hq; exact hq.elim
                        · cases k1 <;> first | (intro hq; exact hq.elim) | exact fun _ => ⟨_, _, rfl, rfl⟩
                        · cases k1 <;> (intro hq; exact hq.elim)
                      | _ => intro hq; exact hq.elim
                obtain ⟨xs, j, q7, rfl⟩ := kk
                rw [q7] at hq
                dsimp only at hq
                · obtain ⟨_, e, hd⟩ := hr.one
                  cases e
                  cases rd_int hd
                  cases q8 : ixP xs.length j with
                  | none => rw [q8] at hq; exact hq.elim
                  | some n =>
                    rw [q8] at hq
                    obtain ⟨a2, ha2, ho2⟩ := h6.own_at q7
                    rw [ha] at ha2; cases ha2
                    obtain ⟨ws, hws, dws⟩ := ho2.2.2
                    refine ⟨_, ws, j, n, rfl, rfl, hws, by rw [dws.length]; exact q8, ?_⟩
                    exact hq σ F5 _ (((s2.trans s3).trans s4).trans s5) (h6.write q7 ha (L2.DpAll.set (L2.Dp.mono (s4.trans s5) d3) n dws))
          | _ => rw [q] at hq; exact hq.elim

/-! ### raise -/
structure Rz (X : Cx) (x : Str) : Prop where
  ex : ∃ (C : Addr) (B newId initId : String) (bmB : List Value), ExcBaseFacts B newId initId bmB ∧ PySem.W.excIn X.K C bmB newId = true ∧ X.mg x = some (.ref C) ∧ PySem.W.keepIn X.K (.ref C) = true ∧ Raises X (.ref C)
  gl : Gl X x
  db : (x == ("__debug__" : Str)) = false
theorem ps_raise' {x m : Str} {j : Nat} {p4 : Pos} (R : Rdy X G W io) (z : Rz X x) : PS X (.Raise (some (.Call (.Name x p) [.Constant (.str m) j p2] [] p3)) none pos) (tS G W (evS cf wf io (.raise x))) := by
  obtain ⟨C, B, newId, initId, bmB, f1, f2, f3, f4, f5⟩ := z.ex
  refine PS.imp (ps_raise R.hc R.tk (pmk_own f1 f2 f3 f4 f5 z.gl z.db)) fun D σ H hq => ?_
  obtain ⟨F, fr, ts, hF, hq⟩ := hq
  rw [evS_raise] at hq
  exact hq σ H none (.ref C) hF.keep hF.tab (by rw [R.hmg]; exact f3)
end
end PP

namespace PP
open PySem PySem.Spec PyProof.Rows
open L2

/-! ### a def that calls what it got, and tells errors by words -/
/-- the clauses tried one after another -/
def wErr (K : PySem.W.Frag) (Q : Str → Prop) : List (Value × Str) → Value → Prop
  | [], _ => False
  | (c, o) :: r, cls => ∃ b, PySem.W.exmOne K cls c = some b ∧ (b = true → Q o) ∧ (b = false → wErr K Q r cls)
def TTE (K : PySem.W.Frag) (hs : List (Value × Str)) (els : Str) : (XK → Hp → VK → Prop) → Hp → VK → Prop := fun tl H Q =>
  tl (fun cls _ H' => wErr K (fun o => Q (.str o) H') hs cls) H (fun _ H1 => Q (.str els) H1)
/-- the written clauses: class name, its value, the word -/
inductive HdE (sg : Scope) (mg : Str → Option Value) : List ExceptHandler → List (Value × Str) → Prop
  | nil : HdE sg mg [] []
  | cons {e ret : Str} {C : Addr} {j : Nat} {p4 p5 p6 p7 : Pos} {hds l} : sg.names.lookup e = some .globalImplicit → (e == ("__debug__" : Str)) = false → mg e = some (.ref C) → HdE sg mg hds l →
      HdE sg mg (.ExceptHandler (some (.Name e p4)) none [.Return (some (.Constant (.str ret) j p5)) p6] p7 :: hds) ((.ref C, ret) :: l)
abbrev tsOf (hs : List (Value × Str)) : List (Value × (Addr → Value → Option Addr → TS)) := hs.map fun p => (p.1, fun _ _ _ => tRet (tC (.str p.2)))
theorem hds_ok {Y : Cx} {sg : Scope} {mg : Str → Option Value} (hsc : ∀ e, sg.names.lookup e = some .globalImplicit → Gl Y e) (hmg : Y.mg = mg) : ∀ {hds : List ExceptHandler} {hs : List (Value × Str)}, HdE sg mg hds hs → HdsOk Y hds (tsOf hs)
  | _, _, .nil => .nil
  | _, _, .cons h1 h2 h3 t => .cons ⟨hsc _ h1, h2, .inl (by rw [hmg]; exact h3)⟩ (fun a oe cls d pn _ _ => pss_one (ps_ret pe_str)) (hds_ok hsc hmg t)
theorem wMany_of {K : PySem.W.Frag} {D : Ends} {σ : L2.St} {H : Hp} {d : Option Addr} {cls : Value} : ∀ {hs : List (Value × Str)}, wErr K (fun o => D.rt (.str o) H) hs cls → wMany K (fun _ _ _ _ => False) D (tsOf hs) cls d σ H
  | [], h => h.elim
  | (c, o) :: r, h => by
    obtain ⟨b, e, h1, h2⟩ := h
    exact ⟨b, e, fun hb a _ => h1 hb, fun hb => wMany_of (h2 hb)⟩
theorem err_gives {X : Cx} {Ng : List Str} {x a q els : Str} {sg : Scope} {g : Addr} {cdg : Value} {j : Nat} {p1 p2 p3 p4 p5 p6 p8 : Pos} {h₀ : ExceptHandler} {hds : List ExceptHandler} {hs : List (Value × Str)} (he : HdE sg X.mg (h₀ :: hds) hs) (h0 : ∀ f : Addr, (L2.start Ng [V.ref f])[0]? = some (some (V.ref f))) :
    LamX.GivesTo X Ng x sg g cdg [.Try [.Expr (.Call (.Name a p1) [] [] p2) p3] (h₀ :: hds) [] [] p8, .Return (some (.Constant (.str els) j p5)) p6] a q (TTE X.K hs els) := by
  intro f c' s H Q tl act hc h
  refine ⟨_, pss_cons (ps_try_many (X := (cxOf C8.CX0 X.prog X.w X.K X.mg X.base Ng x sg g cdg X.A X.stack s H C8.E0).nox) (Wout := fun _ _ _ _ => False)
      (tb := fun W D σ H => ∃ Ech : XK, (∀ cls d σ' H', Ech cls d H' → W cls d σ' H') ∧ σ[0]? = some (some (.ref f)) ∧ H c' = some (LamX.CodeO c' q) ∧ tl Ech H (fun _ H1 => D.nx σ H1))
      rfl rfl takes_none5 (fun W pn xe tk _ => ?_) (hds_ok (fun e h => h) rfl he)) (pss_one (ps_ret pe_str)), ?_⟩
  · refine ⟨fun pins s' σ H' D I h' => ?_⟩
    obtain ⟨Ech, hW, h1, h2, h3⟩ := h'
    have hp := act W pn xe Ech p1 p2 tk hW
    have hq := pss_one (ps_expr (pos := p3) hp)
    exact hq.run pins s' σ H' D I ⟨h1, h2, h3⟩
  · exact ⟨fun cls _ H' => wErr X.K (fun o => Q (.str o) H') hs cls, fun cls d σ' H' h' => wMany_of h', h0 f, hc, h⟩

/-! ### its reading -/
section
variable {G : Ctx} {σ : L2.St} {F F' H H' : Hp} {fr f : Fr} {ts : List (Addr × D)} {io : Bool}
theorem FOk.pres (hio : io = false → G.io = none) : ∀ {is : List Nat} {fr f : Fr} {F : Hp}, FOk G σ F H fr ts → preF io fr is = some f → ∃ F', Same F F' ∧ FOk G σ F' H f ts
  | [], fr, f, F, h, e => by simp [preF] at e; subst e; exact ⟨F, Same.refl _, h⟩
  | i :: is, fr, f, F, h, e => by
    rw [preF] at e
    split at e
    · rename_i xs q
      split at e
      · cases e
      · rename_i c
        obtain ⟨a, F1, ha, s1, h1, d1⟩ := h.freeze q (io_no hio (by simpa using c))
        obtain ⟨F2, s2, h2⟩ := FOk.pres hio h1 e
        exact ⟨F2, s1.trans s2, h2⟩
    · exact FOk.pres hio h e
    · cases e
theorem getS_blind {i : Nat} {s : SV} (h : getS (blind fr) i = some s) : ∃ d, s = .val d ∧ getS fr i = some (.val d) := by
  unfold getS blind at h
  rw [List.getElem?_map] at h
  unfold getS
  cases q : fr[i]? with
  | none => rw [q] at h; cases h
  | some o =>
    rw [q] at h
    cases o with
    | none => cases h
    | some t =>
      cases t with
      | val d => cases h; exact ⟨d, rfl, rfl⟩
      | own d => cases h
/-- the frame that a lambda's body sees -/
theorem FOk.blinded (h : FOk G σ F H fr ts) : FOk ⟨G.K, G.mg, H, F, none, G.T⟩ σ F H (blind fr) [] where
  len := by unfold blind; rw [List.length_map]; exact h.len
  slot := fun i s e => by
    obtain ⟨d, rfl, e'⟩ := getS_blind e
    exact h.slot i _ e'
  inj := fun i j a d e h1 _ _ _ => by obtain ⟨_, z, _⟩ := getS_blind h1; cases z
  tmp := fun p hp => by cases hp
  tnd := by simp
  dj := fun p hp => by cases hp
  sub := h.sub
  base := Same.refl _
  keep := fun b o e _ _ => e
  new := fun b o e => .inl e
  pin := fun a z => by cases z
  tio := fun p hp => by cases hp
  ioc := fun a z => by cases z
  ios := fun i d a e _ z => by cases z
  tab := h.tab
  fnt := h.fnt
/-- behind that body -/
theorem FOk.seen {σ2 : L2.St} {fr2 : Fr} {ts2 : List (Addr × D)} (h : FOk G σ F H fr ts) (h2 : FOk ⟨G.K, G.mg, H, F, none, G.T⟩ σ2 F' H' fr2 ts2) : FOk G σ F' H' fr ts :=
  h.after h2.base h2.sub (fun b o e n => h2.keep b o e n (by simp)) h2.new h2.tab h2.fnt
end
/-- the body's exceptions are told by tab -/
def TabOk (K : PySem.W.Frag) (mg : Str → Option Value) (hs : List (Value × Str)) (tab : List (Str × Str)) : Prop :=
  ∀ c o u (Q : Str → Prop), tab.lookup c = some o → mg c = some u → Q o → wErr K Q hs u
section
variable {X : Cx} {G : Ctx} {W : WX} {cf : CF} {io : Bool} {e : Expr} {r : E} {pos p p2 p3 : Pos}
theorem evE_err {tab : List (Str × Str)} {els : Str} {pre : List Nat} {fr : Fr} : evE cf io (.err tab els pre r) fr = Res.bind (.ofOpt (preF io fr pre)) fun f1 => match evE cf io r (blind f1) with
    | .ok _ => .ok (f1, .val (.str els))
    | .raise c => (match tab.lookup c with | some o => .ok (f1, .val (.str o)) | none => .stuck)
    | .stuck => .stuck := by rw [evE]; first | done | rfl
def tLamB (G : Ctx) (cf : CF) (io : Bool) (r : E) : XK → TE := fun E σ H Q => ∃ F0, tE ⟨G.K, G.mg, H, F0, none, G.T⟩ (fun cls d _ H => E cls d H) (evE cf io r) σ H Q
theorem err_of {tab : List (Str × Str)} {els : Str} {pre : List Nat} {hs : List (Value × Str)} (hio : io = false → G.io = none) (hK : G.K = X.K) (ht : TabOk G.K G.mg hs tab) {σ : L2.St} {H : Hp} {Q : VK} (hq : tE G W (evE cf io (.err tab els pre r)) σ H Q) :
    LamX.tLam G.T (TTE X.K hs els) (tLamB G cf io r) σ H Q := by
  obtain ⟨F, fr, ts, hF, hq⟩ := hq
  refine ⟨hF.tab, fun H1 en t1 => ?_⟩
  rw [evE_err] at hq
  cases q : preF io fr pre with
  | none => rw [q] at hq; exact hq.elim
  | some f1 =>
    rw [q, Res.ofOpt_some, Res.bind_ok] at hq
    obtain ⟨F2, s2, h2⟩ := FOk.pres hio hF q
    have h3 : FOk G σ F2 H1 f1 ts := h2.after (Same.refl _) (fun b o e => en b o (h2.sub b o e) (h2.fnt b o e)) en (fun b o e => .inl e) t1 h2.fnt
    refine ⟨F2, F2, blind f1, [], h3.blinded, ?_⟩
    cases q2 : evE cf io r (blind f1) with
    | stuck => rw [q2] at hq; exact hq.elim
    | raise c =>
      rw [q2] at hq
      dsimp only at hq
      cases q3 : tab.lookup c with
      | none => rw [q3] at hq; exact hq.elim
      | some o =>
        rw [q3] at hq
        intro H' d u kp tb hu
        rw [← hK]
        refine ht c o u _ q3 hu ?_
        refine hq _ F2 H' s2 ⟨.str o, ?_⟩
        exact h3.after (Same.refl _) (fun b o e => kp b o (h3.sub b o e) (h3.fnt b o e) (by simp)) (fun b o e n => kp b o e n (by simp)) (fun b o e => .inl e) tb h3.fnt
    | ok p =>
      obtain ⟨g, s⟩ := p
      rw [q2] at hq
      intro v F' H' s' hv
      cases s with
      | val d => exact hq _ F' H' (s2.trans s') ⟨.str els, h3.seen hv.2⟩
      | own d =>
        obtain ⟨a, _, hv⟩ := hv
        exact hq _ F' H' (s2.trans s') ⟨.str els, h3.seen hv⟩
end
end PP

namespace PP
open PySem PySem.Spec PyProof.Rows
open L2

/-! ### from the written expressions to E -/
/-- what a def may name: its slots; defs (number, parameters, whether the first is handed over); constants; names that the module does not bind; defs that tell errors by words; exceptions -/
structure Cfg where
  N : List Str
  fns : List (Str × Nat × Nat × Bool)
  cs : List (Str × D)
  frees : List Str
  ers : List (Str × List (Str × Str) × Str)
  xcs : List Str
  lam : Option (List (Str × Nat × Nat × Bool))
def ixOf (N : List Str) (x : Str) : Option Nat := match N.findIdx? (fun y => decide (y = x)) with
  | some i => if N[i]? = some x then some i else none
  | none => none
def visB (sc : Scope) (x : Str) : Bool := match sc.names.lookup x with
  | some .local => true | some .cell => true | some .free => true | _ => false
def locB (sc : Scope) (x : Str) : Bool := match sc.names.lookup x with
  | some .local => true | some .cell => true | _ => false
def glB (sc : Scope) (x : Str) : Bool := match sc.names.lookup x with
  | some .globalImplicit => true | _ => false
def dbB (x : Str) : Bool := !(x == ("__debug__" : Str)) && !(x == ("__classdict__" : Str))
def varB (N : List Str) (sc : Scope) (x : Str) : Option Nat := if visB sc x && dbB x then ixOf N x else none
/-- a built-in name, usable here -/
def bltB (frees : List Str) (sc : Scope) (x : Str) : Bool := glB sc x && dbB x && decide (x ∈ frees) && decide (x ≠ "__name__")
def opB : Operator → Option Op
  | .Add => some .add | .Sub => some .sub | .Mult => some .mul | .FloorDiv => some .fdiv | .Mod => some .mod | .Pow => some .pow | _ => none
def mapEs (f : Expr → Option E) : List Expr → Option Es
  | [] => some .nil
  | e :: es => (f e).bind fun r => (mapEs f es).map (.cons r ·)
def mapB (op : BoolOp) (f : Expr → Option E) : List Expr → Option E
  | [] => none
  | [e] => f e
  | e :: es => (f e).bind fun r => (mapB op f es).map fun rs => match op with | .And => .and r rs | .Or => .or r rs
def constB : Expr → Option (Option Bool)
  | .Constant .none _ _ => some none
  | .Constant (.bool b) _ _ => some (some b)
  | _ => none
inductive BK where
  | fn (id : String) (o : Op) | ty (id : String) (o : Op)
def blts : List (Str × Nat × BK) :=
  [("len", 1, .fn "len" .len), ("tuple", 1, .ty "tuple" .tupleOf), ("list", 1, .ty "list" .listOf), ("all", 1, .fn "all" .allOf), ("any", 1, .fn "any" .anyOf), ("max", 1, .fn "max" .maxOf), ("min", 1, .fn "min" .minOf),
   ("sorted", 1, .fn "sorted" .sortedOf), ("abs", 1, .fn "abs" .absOf), ("int", 1, .ty "int" .intOf)]
def tys : List (Str × Ty) := [("int", .int), ("bool", .bool), ("str", .str), ("tuple", .tuple), ("list", .list)]
def BK.op : BK → Op
  | .fn _ o => o | .ty _ o => o
def isTupE : Expr → Bool
  | .Tuple .. => true | _ => false
/-- the target: a name, or names in a tuple -/
def ixNm (N : List Str) (sc : Scope) : Expr → Option Nat
  | .Name x _ => if locB sc x then ixOf N x else none
  | _ => none
def ixNms (N : List Str) (sc : Scope) : List Expr → Option (List Nat)
  | [] => some []
  | e :: es => (ixNm N sc e).bind fun i => (ixNms N sc es).map (i :: ·)
def cT (N : List Str) (sc : Scope) : Expr → Option T
  | .Name x p => (ixNm N sc (.Name x p)).map .nm
  | .Tuple es _ _ => (ixNms N sc es).map .tp
  | _ => none
/-- what is walked -/
def cI (f : Expr → Option E) (frees : List Str) (sc : Scope) (tup : Bool) (e : Expr) : Option I :=
  let dflt : Option I := if okx e then (f e).map .ofE else none
  match e with
  | .Call (.Name x _) args [] _ =>
    if bltB frees sc x then
      if x = "range" then (match args with
        | [a] => (mapEs f [a]).map (.via .range)
        | [a, b] => (mapEs f [a, b]).map (.via .range)
        | _ => none)
      else if x = "enumerate" then (match args with
        | [a] => if tup then (mapEs f [a]).map (.via .enum) else none
        | _ => none)
      else if x = "zip" then (match args with
        | [a, b] => if tup then (mapEs f [a, b]).map (.via .zip) else none
        | _ => none)
      else dflt
    else dflt
  | _ => dflt
/-- the block's own names among the slots -/
def ownOf (N : List Str) (scope : Scope) : List (Str × Nat) := scope.names.filterMap fun y => match y.2 with
  | .local => (ixOf N y.1).map fun i => (y.1, i)
  | .cell => (ixOf N y.1).map fun i => (y.1, i)
  | _ => none
def cSub (f : Expr → Option E) (a b : Expr) : Option E := match b with
  | .Slice none none none _ => (f a).map fun r => .op (.slice false false) (.cons r .nil)
  | .Slice (some b) none none _ => (f a).bind fun r => (f b).map fun s => .op (.slice true false) (.cons r (.cons s .nil))
  | .Slice none (some b) none _ => (f a).bind fun r => (f b).map fun s => .op (.slice false true) (.cons r (.cons s .nil))
  | .Slice (some b) (some c) none _ => (f a).bind fun r => (f b).bind fun s => (f c).map fun t => .op (.slice true true) (.cons r (.cons s (.cons t .nil)))
  | .Slice none none (some (.UnaryOp .USub (.Constant (.int 1) _ _) _)) _ => (f a).map fun r => .op .rev (.cons r .nil)
  | _ => if okx b then (f a).bind fun r => (f b).map fun s => .op .idx (.cons r (.cons s .nil)) else none
def cCmp (f : Expr → Option E) (a : Expr) (ops : List CmpOp) (bs : List Expr) : Option E := match ops, bs with
  | [o], [b] =>
    if o = .Is then (constB b).bind fun d => (f a).map fun r => .op (.isC d true) (.cons r .nil)
    else if o = .IsNot then (constB b).bind fun d => (f a).map fun r => .op (.isC d false) (.cons r .nil)
    else if okx b then (f a).bind fun r => (f b).map fun s => .op (.cmp o) (.cons r (.cons s .nil)) else none
  | [o1, o2], [b, c] =>
    if o1 = .Is ∨ o1 = .IsNot ∨ o2 = .Is ∨ o2 = .IsNot then none
    else if okx c then (f a).bind fun r => (f b).bind fun s => (f c).map fun t => .chain o1 o2 (.cons r (.cons s .nil)) (.cons t .nil) else none
  | _, _ => none
def cIfs (f : Expr → Option E) : List Expr → Option Es
  | [] => some .nil
  | [c] => (f c).map fun r => .cons r .nil
  | _ => none
def noArgs : Arguments → Bool
  | ⟨[], [], none, [], [], none, []⟩ => true
  | _ => false
/-- frozen for a lambda: the slots that its body names -/
def preOf (N : List Str) (scope : Scope) : List Nat := scope.names.filterMap fun y => match y.2 with
  | .free => ixOf N y.1
  | _ => none
def cCall (f : Expr → Option E) (fl : Scope → Expr → Option E) (cfg : Cfg) (sc : Scope) (x : Str) (args : List Expr) : Option E :=
  if bltB cfg.frees sc x then
    match args with
    | [.Call (.Name y _) [a] [] _] => if x = "list" ∧ y = "range" ∧ bltB cfg.frees sc y then (mapEs f [a]).map (.op .listRange) else simple args
    | [.Call (.Name y _) [a, b] [] _] => if x = "list" ∧ y = "range" ∧ bltB cfg.frees sc y then (mapEs f [a, b]).map (.op .listRange) else simple args
    | [e, .Name y _] => if x = "isinstance" ∧ bltB cfg.frees sc y then (tys.lookup y).bind fun t => (f e).map fun r => .op (.isinst t) (.cons r .nil) else none
    | args => simple args
  else if glB sc x && dbB x then
    match cfg.ers.lookup x, args with
    | some (tab, els), [.Lambda ps body scope _] => if cfg.lam.isSome ∧ noArgs ps ∧ LamX.lamSB sc scope then (fl scope body).map fun r => .err tab els (preOf cfg.N scope) r else none
    | some _, _ => none
    | none, _ => (cfg.fns.lookup x).bind fun (j, np, io) =>
      if args.length = np then
        if io then (match args with
          | .Name y _ :: es => (varB cfg.N sc y).bind fun i => (mapEs f es).map (.callio j i)
          | _ => none)
        else if args.isEmpty then none else (mapEs f args).map (.call j)
      else none
  else none
where
  simple (args : List Expr) : Option E := (blts.lookup x).bind fun (n, b) => if args.length = n ∧ args.isEmpty = false then (mapEs f args).map (.op b.op) else none
def Cfg.inLam (c : Cfg) : Cfg := { c with fns := c.lam.getD [], ers := [], lam := none }
def cE : Nat → Cfg → Scope → Expr → Option E
  | 0, _, _, _ => none
  | n + 1, cfg, sc, e => match e with
    | .Constant (.int i) _ _ => some (.cst (.int i))
    | .Constant (.bool b) _ _ => some (.cst (.bool b))
    | .Constant .none _ _ => some (.cst .none)
    | .Constant (.str x) _ _ => some (.cst (.str x))
    | .Name x _ => (match varB cfg.N sc x with
      | some i => some (.var i)
      | none => if glB sc x && dbB x then (cfg.cs.lookup x).map .cst else none)
    | .Tuple es _ _ => (mapEs (cE n cfg sc) es).map .tup
    | .List es _ => (mapEs (cE n cfg sc) es).map .lst
    | .BinOp a op b _ => (opB op).bind fun o => (cE n cfg sc a).bind fun r => (cE n cfg sc b).map fun s => .op o (.cons r (.cons s .nil))
    | .UnaryOp .USub a _ => (cE n cfg sc a).map fun r => .op .neg (.cons r .nil)
    | .UnaryOp .Not a _ => (cE n cfg sc a).map .not
    | .BoolOp op (a :: b :: es) _ => mapB op (cE n cfg sc) (a :: b :: es)
    | .IfExp c a b _ => (cE n cfg sc c).bind fun r => (cE n cfg sc a).bind fun s => (cE n cfg sc b).map fun t => .ife r s t
    | .Compare a ops bs _ => cCmp (cE n cfg sc) a ops bs
    | .Subscript a b _ => cSub (cE n cfg sc) a b
    | .Call (.Name x _) args [] _ => cCall (cE n cfg sc) (cE n cfg.inLam) cfg sc x args
    | .ListComp elt [⟨tg, iter, ifs, 0⟩] scope _ =>
      let sc2 := relS scope sc
      let own := ownOf cfg.N scope
      if blkC cfg.N sc scope own && okx iter then
        (cT cfg.N scope tg).bind fun t => if (tSlots t).all (fun i => decide (i ∈ own.map (·.2))) then
          (cI (cE n cfg sc) cfg.frees sc (isTupE tg) iter).bind fun it => (cIfs (cE n cfg sc2) ifs).bind fun is => (cE n cfg sc2 elt).map fun r => .lc r t it is (own.map (·.2))
        else none
      else none
    | _ => none
end PP

namespace PP
open PySem PySem.Spec PyProof.Rows
open L2

/-! ### what is known of the program's parts -/
def FnsOk (P : Program) (w : World) (K : PySem.W.Frag) (mg : Str → Option Value) (base : Heap) (Tb : List (Addr × Str)) (cf : CF) (k : Nat) (fns : List (Str × Nat × Nat × Bool)) : Prop :=
  ∀ x j np io, fns.lookup x = some (j, np, io) → ∃ f fd ps, FnOk P w K mg base (L2.CX P w) k f fd ps (spF K mg Tb cf j np io) ∧ mg x = some (.ref f) ∧ PySem.W.keepIn K (.ref f) = true ∧ Binds K fd ps []
/-- a def that calls what it got and tells errors by words -/
def ErOk (K : PySem.W.Frag) (mg : Str → Option Value) (x : Str) (tab : List (Str × Str)) (els : Str) : Prop :=
  ∃ (g : Addr) (pg : Arguments) (sg : Scope) (dV kV doc pm cdv ct oc : Value) (an od : Option Addr) (osl : Array (Option Value)) (Ng : List Str) (a : Str) (h₀ : ExceptHandler) (hds : List ExceptHandler) (hs : List (Value × Str)) (p1 p2 p3 p5 p6 p8 : Pos) (j : Nat),
    mg x = some (.ref g) ∧ PySem.W.keepIn K (.ref g) = true ∧
    K.lookup g = some ⟨oc, od, .func (PySem.W.fnOf x x pg [.Try [.Expr (.Call (.Name a p1) [] [] p2) p3] (h₀ :: hds) [] [] p8, .Return (some (.Constant (.str els) j p5)) p6] sg dV kV doc pm an cdv ct), osl⟩ ∧
    PySem.W.codeIn K cdv x = true ∧ L2.Binds K (PySem.W.fnOf x x pg [.Try [.Expr (.Call (.Name a p1) [] [] p2) p3] (h₀ :: hds) [] [] p8, .Return (some (.Constant (.str els) j p5)) p6] sg dV kV doc pm an cdv ct) [a] [] ∧
    FnScope Ng [a] sg ∧ Ng[0]? = some a ∧ Vis sg a ∧ HdE sg mg (h₀ :: hds) hs ∧ TabOk K mg hs tab ∧ dbB a = true
def RzOk (K : PySem.W.Frag) (mg : Str → Option Value) (x : Str) : Prop :=
  ∃ (C : Addr) (B newId initId : String) (bmB : List Value), ExcBaseFacts B newId initId bmB ∧ PySem.W.excIn K C bmB newId = true ∧ mg x = some (.ref C) ∧ PySem.W.keepIn K (.ref C) = true ∧
    PySem.W.subIn K (.ref C) (.type "BaseException") = some true ∧ PySem.W.typeIn K (.ref C) = some (.type "type")
structure StOk (P : Program) (w : World) (K : PySem.W.Frag) (mg : Str → Option Value) (base : Heap) (Tb : List (Addr × Str)) (cf : CF) (k : Nat) (cfg : Cfg) : Prop where
  fn : FnsOk P w K mg base Tb cf k cfg.fns
  cs : ∀ x d, cfg.cs.lookup x = some d → ∃ v u, mg x = some u ∧ RelV v u ∧ ∀ F, Dp K F v d
  fr : ∀ x ∈ cfg.frees, mg x = none
  er : ∀ x tab els, cfg.ers.lookup x = some (tab, els) → ErOk K mg x tab els
  xc : ∀ x ∈ cfg.xcs, RzOk K mg x
  lm : ∀ fl, cfg.lam = some fl → ∃ k', k = k' + 2 ∧ FnsOk P w K mg base Tb cf k' fl
structure CtxOk (X : Cx) (G : Ctx) (W : WX) (cf : CF) (io : Bool) (cfg : Cfg) (sc tsc : Scope) (k : Nat) : Prop extends Rdy X G W io where
  room : Room k X.A
  st : StOk X.prog X.w X.K X.mg X.base G.T cf k cfg
  hN : X.N = cfg.N
  hsc : X.env.scope = sc
  tgt : ∀ x, locB tsc x = true → L2.Loc X.env.scope x ∧ (X.fn x = true ∨ X.env.scope.names.lookup x = some .local)
  lam : cfg.lam.isSome = true → ∃ c P, LamX.TabB X.base X.mg c P ∧ X.env.code = .ref c ∧ (P, X.env.qual ++ "<lambda>") ∈ G.T ∧ ∀ p ∈ G.T, p.1 = P → p.2 = X.env.qual ++ "<lambda>"

theorem ixOf_ok {N : List Str} {x : Str} {i : Nat} (h : ixOf N x = some i) : N[i]? = some x := by
  unfold ixOf at h
  split at h
  · split at h
    · rename_i q; cases h; exact q
    · cases h
  · cases h
theorem dbB_ok {x : Str} (h : dbB x = true) : (x == ("__debug__" : Str)) = false ∧ (x == ("__classdict__" : Str)) = false := by
  unfold dbB at h
  rw [Bool.and_eq_true] at h
  exact ⟨by simpa using h.1, by simpa using h.2⟩
section
variable {X : Cx} {G : Ctx} {W : WX} {cf : CF} {io : Bool} {cfg : Cfg} {sc tsc : Scope} {k : Nat}
theorem CtxOk.vis (C : CtxOk X G W cf io cfg sc tsc k) {x : Str} (h : visB sc x = true) : Vis X.env.scope x := by
  rw [C.hsc]
  unfold visB at h
  unfold Vis
  split at h
  · rename_i q; exact .inl q
  · rename_i q; exact .inr (.inl q)
  · rename_i q; exact .inr (.inr q)
  · cases h
theorem CtxOk.gl (C : CtxOk X G W cf io cfg sc tsc k) {x : Str} (h : glB sc x = true) : Gl X x := by
  unfold Gl
  show X.env.scope.names.lookup x = _
  rw [C.hsc]
  unfold glB at h
  split at h
  · assumption
  · cases h
theorem CtxOk.var (C : CtxOk X G W cf io cfg sc tsc k) {x : Str} {i : Nat} {p : Pos} (h : varB cfg.N sc x = some i) : SE X G W cf io (.Name x p) (.var i) := by
  unfold varB at h
  split at h
  · rename_i q
    rw [Bool.and_eq_true] at q
    exact se_var C.hio (by rw [C.hN]; exact ixOf_ok h) (C.vis q.1) (dbB_ok q.2).1 (dbB_ok q.2).2
  · cases h
theorem CtxOk.blt (C : CtxOk X G W cf io cfg sc tsc k) {x : Str} (h : bltB cfg.frees sc x = true) : Gl X x ∧ X.mg x = none ∧ x ≠ "__name__" ∧ (x == ("__debug__" : Str)) = false := by
  unfold bltB at h
  simp only [Bool.and_eq_true, decide_eq_true_eq] at h
  exact ⟨C.gl h.1.1.1, C.st.fr x h.1.2, h.2, (dbB_ok h.1.1.2).1⟩
theorem mapEs_ok {f : Expr → Option E} (hf : ∀ e r, f e = some r → SE' X G W cf io e r) : ∀ {es : List Expr} {rs : Es}, mapEs f es = some rs → SEs' X G W cf io es rs
  | [], rs, h => by simp [mapEs] at h; subst h; exact .nil
  | e :: es, rs, h => by
    simp only [mapEs, Option.bind_eq_some_iff, Option.map_eq_some_iff] at h
    obtain ⟨r, h1, rs', h2, rfl⟩ := h
    exact .cons (hf e r h1) (mapEs_ok hf h2)
theorem mapB_ok {op : BoolOp} {f : Expr → Option E} (hf : ∀ e r, f e = some r → SE' X G W cf io e r) : ∀ {es : List Expr} {r : E}, mapB op f es = some r → SB X G W cf io op es r
  | [], r, h => by simp [mapB] at h
  | [e], r, h => .one (hf e r h)
  | e :: e2 :: es, r, h => by
    simp only [mapB, Option.bind_eq_some_iff, Option.map_eq_some_iff] at h
    obtain ⟨r1, h1, rs', h2, rfl⟩ := h
    have q := SB.more (hf e r1 h1) (mapB_ok hf h2)
    cases op <;> exact q
theorem opB_ok (R : Rdy X G W io) {op : Operator} {o : Op} (h : opB op = some o) : OpR X (binaryOp op) (fun x y H Q => rOp G o [x, y] H Q) := by
  cases op <;> simp [opB] at h <;> subst h
  · exact op_add_ok R.hK
  · exact op_sub_ok
  · exact op_mul_ok R.hK
  · exact op_mod_ok
  · exact op_pow_ok
  · exact op_fdiv_ok
theorem constB_ok {b : Expr} {d : Option Bool} (h : constB b = some d) : PE X b (tC (cV d)) ∧ okx b = true := by
  unfold constB at h
  split at h
  · cases h; exact ⟨pe_non, rfl⟩
  · cases h; exact ⟨pe_bl, rfl⟩
  · cases h
theorem cSub_ok (R : Rdy X G W io) {f : Expr → Option E} (hf : ∀ e r, f e = some r → SE' X G W cf io e r) {a b : Expr} {r : E} {pos : Pos} (h : cSub f a b = some r) : SE' X G W cf io (.Subscript a b pos) r := by
  unfold cSub at h
  split at h
  · simp only [Option.map_eq_some_iff] at h
    obtain ⟨r1, h1, rfl⟩ := h
    exact se_sl00 R (hf _ _ h1).plain
  · simp only [Option.bind_eq_some_iff, Option.map_eq_some_iff] at h
    obtain ⟨r1, h1, r2, h2, rfl⟩ := h
    exact se_sl10 R (hf _ _ h1).plain (hf _ _ h2).plain
  · simp only [Option.bind_eq_some_iff, Option.map_eq_some_iff] at h
    obtain ⟨r1, h1, r2, h2, rfl⟩ := h
    exact se_sl01 R (hf _ _ h1).plain (hf _ _ h2).plain
  · simp only [Option.bind_eq_some_iff, Option.map_eq_some_iff] at h
    obtain ⟨r1, h1, r2, h2, r3, h3, rfl⟩ := h
    exact se_sl11 R (hf _ _ h1).plain (hf _ _ h2).plain (hf _ _ h3).plain
  · simp only [Option.map_eq_some_iff] at h
    obtain ⟨r1, h1, rfl⟩ := h
    exact se_rev R (hf _ _ h1).plain
  · split at h
    · rename_i kb
      simp only [Option.bind_eq_some_iff, Option.map_eq_some_iff] at h
      obtain ⟨r1, h1, r2, h2, rfl⟩ := h
      exact se_idx R (hf _ _ h1).plain (hf _ _ h2).plain kb
    · cases h
theorem cCmp_ok (R : Rdy X G W io) {f : Expr → Option E} (hf : ∀ e r, f e = some r → SE' X G W cf io e r) {a : Expr} {ops : List CmpOp} {bs : List Expr} {r : E} {pos : Pos} (h : cCmp f a ops bs = some r) : SE' X G W cf io (.Compare a ops bs pos) r := by
  unfold cCmp at h
  split at h
  · split at h
    · rename_i e; subst e
      simp only [Option.bind_eq_some_iff, Option.map_eq_some_iff] at h
      obtain ⟨d, h1, r1, h2, rfl⟩ := h
      exact se_is (hf _ _ h2).plain (constB_ok (X := X) h1).1 (constB_ok (X := X) h1).2
    · split at h
      · rename_i e; subst e
        simp only [Option.bind_eq_some_iff, Option.map_eq_some_iff] at h
        obtain ⟨d, h1, r1, h2, rfl⟩ := h
        exact se_isnot (hf _ _ h2).plain (constB_ok (X := X) h1).1 (constB_ok (X := X) h1).2
      · rename_i n1 n2
        split at h
        · rename_i kb
          simp only [Option.bind_eq_some_iff, Option.map_eq_some_iff] at h
          obtain ⟨r1, h1, r2, h2, rfl⟩ := h
          exact se_cmp R n1 n2 (hf _ _ h1).plain (hf _ _ h2).plain kb
        · cases h
  · split at h
    · cases h
    · rename_i n
      simp only [not_or] at n
      split at h
      · rename_i kb
        simp only [Option.bind_eq_some_iff, Option.map_eq_some_iff] at h
        obtain ⟨r1, h1, r2, h2, r3, h3, rfl⟩ := h
        exact se_chain R n.1 n.2.1 n.2.2.1 n.2.2.2 (hf _ _ h1).plain (hf _ _ h2).plain (hf _ _ h3).plain kb
      · cases h
  · cases h
theorem blts_ok (R : Rdy X G W io) {x : Str} {n : Nat} {b : BK} (h : blts.lookup x = some (n, b)) : (∃ id, bootBuiltins x = some (.builtin id) ∧ CallR X (.builtin id) (rOp G b.op)) ∨ ∃ id, bootBuiltins x = some (.type id) ∧ CallR X (.type id) (rOp G b.op) := by
  have hm := PySem.mem_of_lookup h
  unfold blts at hm
  simp only [List.mem_cons, List.not_mem_nil, or_false, Prod.mk.injEq] at hm
  rcases hm with ⟨rfl, rfl, rfl⟩ | ⟨rfl, rfl, rfl⟩ | ⟨rfl, rfl, rfl⟩ | ⟨rfl, rfl, rfl⟩ | ⟨rfl, rfl, rfl⟩ | ⟨rfl, rfl, rfl⟩ | ⟨rfl, rfl, rfl⟩ | ⟨rfl, rfl, rfl⟩ | ⟨rfl, rfl, rfl⟩ | ⟨rfl, rfl, rfl⟩
  · exact .inl ⟨_, by decide +kernel, len_ok R.hK⟩
  · exact .inr ⟨_, by decide +kernel, tuple_ok R.hK⟩
  · exact .inr ⟨_, by decide +kernel, list_ok R.hK⟩
  · exact .inl ⟨_, by decide +kernel, all_ok R.hK R.hc⟩
  · exact .inl ⟨_, by decide +kernel, any_ok R.hK R.hc⟩
  · exact .inl ⟨_, by decide +kernel, max_ok R.hK R.hc R.hu⟩
  · exact .inl ⟨_, by decide +kernel, min_ok R.hK R.hc R.hu⟩
  · exact .inl ⟨_, by decide +kernel, sorted_ok R.hK R.hu⟩
  · exact .inl ⟨_, by decide +kernel, abs_ok⟩
  · exact .inr ⟨_, by decide +kernel, int_ok⟩
theorem tys_ok {x : Str} {t : Ty} (h : tys.lookup x = some t) : bootBuiltins x = some (.type (tyN t)) := by
  have hm := PySem.mem_of_lookup h
  unfold tys at hm
  simp only [List.mem_cons, List.not_mem_nil, or_false, Prod.mk.injEq] at hm
  rcases hm with ⟨rfl, rfl⟩ | ⟨rfl, rfl⟩ | ⟨rfl, rfl⟩ | ⟨rfl, rfl⟩ | ⟨rfl, rfl⟩ <;> decide +kernel
theorem simple_ok (C : CtxOk X G W cf io cfg sc tsc k) {f : Expr → Option E} (hf : ∀ e r, f e = some r → SE' X G W cf io e r) {x : Str} {args : List Expr} {r : E} {p pos : Pos} (hb : bltB cfg.frees sc x = true) (h : cCall.simple f x args = some r) :
    SE' X G W cf io (.Call (.Name x p) args [] pos) r := by
  unfold cCall.simple at h
  simp only [Option.bind_eq_some_iff] at h
  obtain ⟨⟨n, b⟩, h1, h2⟩ := h
  dsimp only at h2
  split at h2
  · rename_i c
    simp only [Option.map_eq_some_iff] at h2
    obtain ⟨rs, h3, rfl⟩ := h2
    obtain ⟨b1, b2, b3, b4⟩ := C.blt hb
    have hs := mapEs_ok hf h3
    cases args with
    | nil => simp at c
    | cons e es =>
      rcases blts_ok C.toRdy h1 with ⟨id, v, cr⟩ | ⟨id, v, cr⟩
      · exact se_callB cr b1 b2 v b3 b4 hs
      · exact se_callTy cr b1 b2 v b3 b4 hs
  · cases h2
theorem noArgs_ok {ps : Arguments} (h : noArgs ps = true) : ps = ⟨[], [], none, [], [], none, []⟩ := by
  unfold noArgs at h
  split at h
  · rfl
  · cases h
/-- the context of a lambda's body -/
theorem CtxOk.inLam (C : CtxOk X G W cf io cfg sc tsc (k + 2)) {scope : Scope} (L : LamX.LamS X.env.scope scope) (hf : FnsOk X.prog X.w X.K X.mg X.base G.T cf k (cfg.lam.getD [])) {A : Around} {outer : List Env} {s : Shared} {H : Hp} {E : XK} {f c' : Addr}
    (hr : Room k (A.deeper (LamX.lamEnv X scope s.heap.objs.size f c'))) (H1 F0 : Hp) : CtxOk (LamX.lamCx X A outer s H E scope f c') ⟨G.K, G.mg, H1, F0, none, G.T⟩ (fun cls d _ H => E cls d H) cf io cfg.inLam scope scope k where
  hK := C.hK
  hmg := C.hmg
  hc := rfl
  hu := by have := hr.un; show (A.deeper (LamX.lamEnv X scope s.heap.objs.size f c')).units + 100 < cLine; omega
  hio := fun _ => rfl
  tk := takes_of (E := E) rfl rfl rfl rfl
  nd := C.nd
  room := hr
  st := ⟨hf, C.st.cs, C.st.fr, fun x tab els h => by simp [Cfg.inLam] at h, C.st.xc, fun fl h => by simp [Cfg.inLam] at h⟩
  hN := C.hN
  hsc := rfl
  tgt := fun x h => by
    unfold locB at h
    split at h
    · rename_i q; exact absurd rfl (L.own _ (PySem.mem_of_lookup q)).1
    · rename_i q; exact absurd rfl (L.own _ (PySem.mem_of_lookup q)).2
    · cases h
  lam := fun h => by simp [Cfg.inLam] at h
theorem tabOk_K {K : PySem.W.Frag} {mg : Str → Option Value} (hK : G.K = K) (hm : G.mg = mg) {hs : List (Value × Str)} {tab : List (Str × Str)} (h : TabOk K mg hs tab) : TabOk G.K G.mg hs tab := by rw [hK, hm]; exact h
/-- x(lambda: body) -/
theorem se_err (C : CtxOk X G W cf io cfg sc tsc k) {x : Str} {tab : List (Str × Str)} {els : Str} {pre : List Nat} {ps : Arguments} {body : Expr} {scope : Scope} {p lpos pos : Pos} {r : E} (hx : cfg.ers.lookup x = some (tab, els)) (hg : Gl X x) (hd : (x == ("__debug__" : Str)) = false) (hl : cfg.lam.isSome = true) (hp : noArgs ps = true)
    (hL : LamX.lamSB sc scope = true) (hb : ∀ (X' : Cx) (G' : Ctx) (W' : WX) (k' : Nat), CtxOk X' G' W' cf io cfg.inLam scope scope k' → SE' X' G' W' cf io body r) : SE' X G W cf io (.Call (.Name x p) [.Lambda ps body scope lpos] [] pos) (.err tab els pre r) := by
  obtain ⟨g, pg, sg, dV, kV, doc, pm, cdv, ct, oc, an, od, osl, Ng, a, h₀, hds, hs, p1, p2, p3, p5, p6, p8, j, e1, e2, e3, e4, e5, e6, e7, e8, e9, e10, e11⟩ := C.st.er x tab els hx
  obtain ⟨fl, hfl⟩ := Option.isSome_iff_exists.mp hl
  obtain ⟨k', rfl, hF⟩ := C.st.lm fl hfl
  obtain ⟨c, P, t1, t2, t3, t4⟩ := C.lam hl
  have L : LamX.LamS X.env.scope scope := by rw [C.hsc]; exact LamX.lamS_by hL
  obtain rfl := noArgs_ok hp
  have hF' : FnsOk X.prog X.w X.K X.mg X.base G.T cf k' (cfg.lam.getD []) := by rw [hfl]; exact hF
  have h0 : ∀ f : Addr, (L2.start Ng [V.ref f])[0]? = some (some (V.ref f)) := fun f => rfl
  refine se_by' rfl rfl (LamX.pe_lamcall (t := tLamB G cf io r) hg e1 e2 e3 e4 e5 e6 e7 e8 (err_gives (p4 := p) e9 h0) t1 t2 t3 t4 C.room L rfl (fun _ _ _ _ _ => rfl) (fun A outer s H E f c' hr => ?_) hd (dbB_ok e11).1 (dbB_ok e11).2) (fun _ => rfl) fun σ H Q hq => err_of C.hio C.hK (tabOk_K C.hK C.hmg e10) hq
  refine ⟨fun pins s' σ H' Q I ⟨F0, hq⟩ => ?_⟩
  exact (hb _ _ _ k' (C.inLam L hF' hr H' F0)).pe.run pins s' σ H' Q I hq
theorem se_callL {j np : Nat} {x : Str} {es : List Expr} {rs : Es} {p pos : Pos} (R : Rdy X G W io) (C : Fc X G.T cf j x np false) (h : SEs' X G W cf io es rs) (hn : es.length = np) (ne : es.isEmpty = false) : SE' X G W cf io (.Call (.Name x p) es [] pos) (.call j rs) := by
  cases es with
  | nil => cases ne
  | cons e es => exact se_call R C h hn
theorem cCall_ok (C : CtxOk X G W cf io cfg sc tsc k) {f : Expr → Option E} {fl : Scope → Expr → Option E} (hf : ∀ e r, f e = some r → SE' X G W cf io e r)
    (hfl : ∀ (X' : Cx) (G' : Ctx) (W' : WX) (k' : Nat) (scope : Scope), CtxOk X' G' W' cf io cfg.inLam scope scope k' → ∀ e r, fl scope e = some r → SE' X' G' W' cf io e r) {x : Str} {args : List Expr} {r : E} {p pos : Pos} (h : cCall f fl cfg sc x args = some r) : SE' X G W cf io (.Call (.Name x p) args [] pos) r := by
  unfold cCall at h
  split at h
  · rename_i hb
    split at h
    · split at h
      · rename_i q
        obtain ⟨rfl, rfl, q⟩ := q
        simp only [Option.map_eq_some_iff] at h
        obtain ⟨rs, h1, rfl⟩ := h
        obtain ⟨b1, b2, _, _⟩ := C.blt hb
        obtain ⟨b3, b4, _, _⟩ := C.blt q
        have hs := mapEs_ok hf h1
        cases hs with
        | cons ha hn =>
          cases hn
          exact se_listRg1 (p4 := p) C.toRdy b1 b2 b3 b4 ha
      · exact simple_ok C hf hb h
    · split at h
      · rename_i q
        obtain ⟨rfl, rfl, q⟩ := q
        simp only [Option.map_eq_some_iff] at h
        obtain ⟨rs, h1, rfl⟩ := h
        obtain ⟨b1, b2, _, _⟩ := C.blt hb
        obtain ⟨b3, b4, _, _⟩ := C.blt q
        have hs := mapEs_ok hf h1
        cases hs with
        | cons ha hn =>
          cases hn with
          | cons hb2 hn =>
            cases hn
            exact se_listRg2 (p4 := p) C.toRdy b1 b2 b3 b4 ha hb2
      · exact simple_ok C hf hb h
    · split at h
      · rename_i q
        obtain ⟨rfl, q⟩ := q
        simp only [Option.bind_eq_some_iff, Option.map_eq_some_iff] at h
        obtain ⟨t, h1, r1, h2, rfl⟩ := h
        obtain ⟨b1, b2, b3, b4⟩ := C.blt hb
        obtain ⟨c1, c2, c3, c4⟩ := C.blt q
        exact se_isinst C.toRdy b1 b2 boot_isinstance b3 b4 c1 c2 (tys_ok h1) c3 c4 (hf _ _ h2)
      · cases h
    · exact simple_ok C hf hb h
  · split at h
    · rename_i q
      rw [Bool.and_eq_true] at q
      have hg := C.gl q.1
      have hd := (dbB_ok q.2).1
      split at h
      · rename_i tab els ps body scope lpos he
        split at h
        · rename_i c
          simp only [Option.map_eq_some_iff] at h
          obtain ⟨r1, h1, rfl⟩ := h
          exact se_err C he hg hd c.1 c.2.1 c.2.2 fun X' G' W' k' C' => hfl X' G' W' k' scope C' body r1 h1
        · cases h
      · cases h
      · simp only [Option.bind_eq_some_iff] at h
        obtain ⟨⟨j, np, io'⟩, h1, h2⟩ := h
        dsimp only at h2
        obtain ⟨fa, fd, ps, k1, k2, k3, k4⟩ := C.st.fn x j np io' h1
        have Fc' : Fc X G.T cf j x np io' := ⟨⟨fa, fd, ps, k, k1, C.room, k2, k3, k4⟩, hg, hd⟩
        split at h2
        · rename_i hn
          cases io' with
          | true =>
            rw [if_pos rfl] at h2
            split at h2
            · simp only [Option.bind_eq_some_iff, Option.map_eq_some_iff] at h2
              obtain ⟨i, h3, rs, h4, rfl⟩ := h2
              exact se_callIo C.toRdy Fc' (C.var h3) (mapEs_ok hf h4) hn
            · cases h2
          | false =>
            rw [if_neg Bool.false_ne_true] at h2
            split at h2
            · cases h2
            · rename_i ne
              simp only [Option.map_eq_some_iff] at h2
              obtain ⟨rs, h4, rfl⟩ := h2
              exact se_callL C.toRdy Fc' (mapEs_ok hf h4) hn (by simpa using ne)
        · cases h2
    · cases h
theorem ixNm_ok (C : CtxOk X G W cf io cfg sc tsc k) {e : Expr} {i : Nat} (h : ixNm cfg.N tsc e = some i) : ∃ x p, e = .Name x p ∧ NmOk X i x := by
  unfold ixNm at h
  split at h
  · split at h
    · rename_i q
      exact ⟨_, _, rfl, by rw [C.hN]; exact ixOf_ok h, (C.tgt _ q).1, (C.tgt _ q).2⟩
    · cases h
  · cases h
theorem ixNms_ok (C : CtxOk X G W cf io cfg sc tsc k) : ∀ {es : List Expr} {is : List Nat}, ixNms cfg.N tsc es = some is → NmsOk X es is
  | [], is, h => by simp [ixNms] at h; subst h; exact .nil
  | e :: es, is, h => by
    simp only [ixNms, Option.bind_eq_some_iff, Option.map_eq_some_iff] at h
    obtain ⟨i, h1, is', h2, rfl⟩ := h
    obtain ⟨x, p, rfl, hx⟩ := ixNm_ok C h1
    exact .cons hx (ixNms_ok C h2)
theorem cT_ok (C : CtxOk X G W cf io cfg sc tsc k) {tg : Expr} {t : T} (h : cT cfg.N tsc tg = some t) : PG X tg (gT G io t) := by
  unfold cT at h
  split at h
  · simp only [Option.map_eq_some_iff] at h
    obtain ⟨i, h1, rfl⟩ := h
    obtain ⟨x, p, e, hx⟩ := ixNm_ok C h1
    cases e
    exact pg_T1 C.nd C.hio hx
  · simp only [Option.map_eq_some_iff] at h
    obtain ⟨is, h1, rfl⟩ := h
    exact pg_Tp C.hc C.hK C.nd C.hio (ixNms_ok C h1)
  · cases h
theorem cI_ok (C : CtxOk X G W cf io cfg sc tsc k) {f : Expr → Option E} (hf : ∀ e r, f e = some r → SE' X G W cf io e r) {tg e : Expr} {it : I} (h : cI f cfg.frees sc (isTupE tg) e = some it) : PI X tg e (tI G W (evI cf io it)) ∧ okx e = true := by
  have df : ∀ {it}, (if okx e then (f e).map I.ofE else none) = some it → PI X tg e (tI G W (evI cf io it)) ∧ okx e = true := fun {it} h => by
    split at h
    · rename_i ke
      simp only [Option.map_eq_some_iff] at h
      obtain ⟨r, h1, rfl⟩ := h
      exact ⟨pi_ofE C.hK (hf _ _ h1).pe, ke⟩
    · cases h
  unfold cI at h
  dsimp only at h
  split at h
  · split at h
    · rename_i hb
      obtain ⟨b1, b2, _, _⟩ := C.blt hb
      split at h
      · rename_i ex; subst ex
        split at h
        · simp only [Option.map_eq_some_iff] at h
          obtain ⟨rs, h1, rfl⟩ := h
          exact ⟨pi_rg1 b1 b2 (mapEs_ok hf h1), rfl⟩
        · simp only [Option.map_eq_some_iff] at h
          obtain ⟨rs, h1, rfl⟩ := h
          exact ⟨pi_rg2 b1 b2 (mapEs_ok hf h1), rfl⟩
        · cases h
      · split at h
        · rename_i ex; subst ex
          split at h
          · split at h
            · rename_i ht
              simp only [Option.map_eq_some_iff] at h
              obtain ⟨rs, h1, rfl⟩ := h
              cases tg <;> first | (exact ⟨pi_en C.hK b1 b2 (mapEs_ok hf h1), rfl⟩) | (cases ht)
            · cases h
          · cases h
        · split at h
          · rename_i ex; subst ex
            split at h
            · split at h
              · rename_i ht
                simp only [Option.map_eq_some_iff] at h
                obtain ⟨rs, h1, rfl⟩ := h
                cases tg <;> first | (exact ⟨pi_zp C.hK b1 b2 (mapEs_ok hf h1), rfl⟩) | (cases ht)
              · cases h
            · cases h
          · exact df h
    · exact df h
  · exact df h
theorem cIfs_ok {f : Expr → Option E} (hf : ∀ e r, f e = some r → SE' X G W cf io e r) {ifs : List Expr} {is : Es} (h : cIfs f ifs = some is) : PTs X ifs (tT G W (evTs cf io is)) := by
  unfold cIfs at h
  split at h
  · cases h; exact pts_no
  · simp only [Option.map_eq_some_iff] at h
    obtain ⟨r, h1, rfl⟩ := h
    exact pts_yes (hf _ _ h1).plain
  · cases h
/-- the context of a comprehension's block -/
theorem CtxOk.blk (C : CtxOk X G W cf io cfg sc tsc k) {scope : Scope} {own : List (Str × Nat)} (hb : BlkOk X.N X.env.scope scope own) (s : Shared) (H : Hp) (Cl : Addr) (cl : List (Str × Addr)) (fp : List Addr) : CtxOk (X.blk s H scope (compEnvC scope cl Cl X.env) fp) G W0 cf io cfg (relS scope sc) scope k where
  hK := C.hK
  hmg := C.hmg
  hc := C.hc
  hu := C.hu
  hio := C.hio
  tk := LamX.takes0
  nd := C.nd
  room := C.room
  st := C.st
  hN := C.hN
  hsc := by rw [← C.hsc]; rfl
  tgt := fun x h => by
    unfold locB at h
    split at h
    · rename_i q
      have q2 : (relS scope X.env.scope).names.lookup x = some .local := lookup_relS_keep (by decide) q
      exact ⟨.inl q2, .inr q2⟩
    · rename_i q
      have q2 : (relS scope X.env.scope).names.lookup x = some .cell := lookup_relS_keep (by decide) q
      exact ⟨.inr q2, .inl (by show (scope.names.lookup x == some .cell) = true; rw [q]; rfl)⟩
    · cases h
  lam := C.lam
theorem cE_ok : ∀ (n : Nat) (cfg : Cfg) (sc tsc : Scope) (X : Cx) (G : Ctx) (W : WX) (k : Nat), CtxOk X G W cf io cfg sc tsc k → ∀ e r, cE n cfg sc e = some r → SE' X G W cf io e r
  | 0, _, _, _, _, _, _, _, _, e, r, h => by simp [cE] at h
  | n + 1, cfg, sc, tsc, X, G, W, k, C, e, r, h => by
    have hf := cE_ok n cfg sc tsc X G W k C
    unfold cE at h
    split at h
    · cases h; exact se_int.up rfl
    · cases h; exact se_bool.up rfl
    · cases h; exact se_none.up rfl
    · cases h; exact se_str.up rfl
    · split at h
      · rename_i i hi
        cases h
        exact (C.var hi).up rfl
      · split at h
        · rename_i q
          rw [Bool.and_eq_true] at q
          simp only [Option.map_eq_some_iff] at h
          obtain ⟨d, h1, rfl⟩ := h
          obtain ⟨v, u, m1, m2, m3⟩ := C.st.cs _ d h1
          exact (se_glob (C.gl q.1) m1 m2 (fun F => by rw [C.hK]; exact m3 F) (dbB_ok q.2).1).up rfl
        · cases h
    · simp only [Option.map_eq_some_iff] at h
      obtain ⟨rs, h1, rfl⟩ := h
      exact (se_tup (mapEs_ok hf h1).plain).up rfl
    · simp only [Option.map_eq_some_iff] at h
      obtain ⟨rs, h1, rfl⟩ := h
      exact (se_lst (mapEs_ok hf h1).plain).up rfl
    · simp only [Option.bind_eq_some_iff, Option.map_eq_some_iff] at h
      obtain ⟨o, h1, r1, h2, r2, h3, rfl⟩ := h
      exact se_bin (opB_ok C.toRdy h1) (hf _ _ h2).plain (hf _ _ h3).plain
    · simp only [Option.map_eq_some_iff] at h
      obtain ⟨r1, h1, rfl⟩ := h
      exact se_neg (hf _ _ h1).plain
    · simp only [Option.map_eq_some_iff] at h
      obtain ⟨r1, h1, rfl⟩ := h
      exact se_not (hf _ _ h1).plain
    · exact se_boolop (mapB_ok hf h)
    · simp only [Option.bind_eq_some_iff, Option.map_eq_some_iff] at h
      obtain ⟨r1, h1, r2, h2, r3, h3, rfl⟩ := h
      exact se_ife (hf _ _ h1).plain (hf _ _ h2).plain (hf _ _ h3).plain
    · exact cCmp_ok C.toRdy hf h
    · exact cSub_ok C.toRdy hf h
    · exact cCall_ok C hf (fun X' G' W' k' scope C' e r h => cE_ok n cfg.inLam scope scope X' G' W' k' C' e r h) h
    · rename_i elt tg iter ifs scope pos

      dsimp only at h
      split at h
      · rename_i q
        rw [Bool.and_eq_true] at q
        simp only [Option.bind_eq_some_iff] at h
        obtain ⟨t, h1, h⟩ := h
        split at h
        · rename_i hs
          simp only [Option.bind_eq_some_iff, Option.map_eq_some_iff] at h
          obtain ⟨it, h2, is, h3, r1, h4, rfl⟩ := h
          have ok : BlkOk X.N X.env.scope scope (ownOf cfg.N scope) := by rw [C.hN, C.hsc]; exact blkOk_by q.1
          obtain ⟨pi, ki⟩ := cI_ok C hf h2
          refine se_lc C.toRdy pi ok rfl (fun i hi => of_decide_eq_true (List.all_eq_true.mp hs i hi)) (fun s H Cl cl fp => cT_ok (C.blk ok s H Cl cl fp) h1)
            (fun s H Cl cl fp => cIfs_ok (cE_ok n cfg (relS scope sc) scope _ G W0 k (C.blk ok s H Cl cl fp)) h3)
            (fun s H Cl cl fp => (cE_ok n cfg (relS scope sc) scope _ G W0 k (C.blk ok s H Cl cl fp) _ _ h4).pe) fun x => fs_okx ki X.env x
        · cases h
      · cases h
    · cases h
end
end PP

namespace PP
open PySem PySem.Spec PyProof.Rows
open L2

/-! ### statements -/
def isCompE : Expr → Bool
  | .ListComp .. => true | .SetComp .. => true | .DictComp .. => true | _ => false
/-- name = [.. for ..] is stored in the comprehension's own step -/
def swB (sc : Scope) (y : Str) (py : Pos) (scope : Scope) (cpos : Pos) : Bool :=
  decide (sc.kind = .function) && decide (sc.names.lookup y = some .local) && (py.line == cpos.line) && !(scope.names.any fun (n, k) => n == y && (k == .local || k == .cell))
def nmOf : Expr → Option Str
  | .Name x _ => some x | _ => none
def lnOf : Expr → Nat
  | .Name _ p => p.line | _ => 0
def parB2 (sc : Scope) (x y : Str) (px py : Pos) (vs : List Expr) : Bool :=
  decide (sc.kind = .function) && decide (sc.names.lookup x = some .local) && decide (sc.names.lookup y = some .local) && (px.line == py.line) && decide (x ≠ y) && vs.all okx && !(vs.all (foldedForSure 8)) && !(vs.all (constantsAlone 8))
def parB3 (sc : Scope) (x y z : Str) (px py pz : Pos) (vs : List Expr) : Bool :=
  decide (sc.kind = .function) && decide (sc.names.lookup x = some .local) && decide (sc.names.lookup y = some .local) && decide (sc.names.lookup z = some .local) && (py.line == px.line) && (pz.line == px.line) && decide (x ≠ y) && decide (x ≠ z) && decide (y ≠ z) && vs.all okx && !(vs.all (foldedForSure 8)) && !(vs.all (constantsAlone 8))
section
variable {X : Cx} {x y z : Str} {px py pz pt : Pos} {kt k2 : Nat} {pt2 : Pos} {a b c : Expr}
theorem okx_star {e : Expr} (h : okx e = true) : (match e with | .Starred .. => true | _ => false) = false := by cases e <;> first | rfl | (simp [okx] at h)
theorem par2_sw (hk : X.env.scope.kind = .function) (h : parB2 X.env.scope x y px py [a, b] = true) : swappedStores [.Tuple [.Name x px, .Name y py] kt pt] (.Tuple [a, b] k2 pt2) X.env = pure (some [x, y]) := by
  unfold parB2 at h
  simp only [Bool.and_eq_true, decide_eq_true_eq, Bool.not_eq_true'] at h
  obtain ⟨⟨⟨⟨⟨⟨⟨h0, h1⟩, h2⟩, h3⟩, h4⟩, h5⟩, h6⟩, h7⟩ := h
  have hb : X.env.blockKind = .function := by unfold Env.blockKind; rw [hk]; rfl
  have k1 : X.env.kindOf x = some .local := h1
  have k2' : X.env.kindOf y = some .local := h2
  simp only [List.all_cons, List.all_nil, Bool.and_true, Bool.and_eq_true] at h5
  have l2 : py.line = px.line := by rw [beq_iff_eq] at h3; exact h3.symm
  have ed2 : y ≠ x := Ne.symm h4
  unfold swappedStores
  simp [hb, k1, k2', l2, h6, h7, Expr.pos, List.filterMap_cons]
  rw [if_neg (by
    rintro (q | q)
    · cases a <;> first | (cases q; done) | (exact absurd h5.1 (by simp [okx]))
    · cases b <;> first | (cases q; done) | (exact absurd h5.2 (by simp [okx]))), if_pos (by simp [List.eraseDups_cons, ed2])]
theorem par3_sw (hk : X.env.scope.kind = .function) (h : parB3 X.env.scope x y z px py pz [a, b, c] = true) : swappedStores [.Tuple [.Name x px, .Name y py, .Name z pz] kt pt] (.Tuple [a, b, c] k2 pt2) X.env = pure (some [x, y, z]) := by
  unfold parB3 at h
  simp only [Bool.and_eq_true, decide_eq_true_eq, Bool.not_eq_true'] at h
  obtain ⟨⟨⟨⟨⟨⟨⟨⟨⟨⟨⟨h0, h1⟩, h2⟩, h3⟩, l2⟩, l3⟩, n1⟩, n2⟩, n3⟩, h5⟩, h6⟩, h7⟩ := h
  have hb : X.env.blockKind = .function := by unfold Env.blockKind; rw [hk]; rfl
  have k1 : X.env.kindOf x = some .local := h1
  have k2' : X.env.kindOf y = some .local := h2
  have k3 : X.env.kindOf z = some .local := h3
  simp only [List.all_cons, List.all_nil, Bool.and_true, Bool.and_eq_true] at h5
  have l2 : py.line = px.line := by rw [beq_iff_eq] at l2; exact l2
  have l3 : pz.line = px.line := by rw [beq_iff_eq] at l3; exact l3
  unfold swappedStores
  simp [hb, k1, k2', k3, l2, l3, h6, h7, Expr.pos, List.filterMap_cons]
  rw [if_neg (by
    rintro (q | q | q)
    · cases a <;> first | (cases q; done) | (exact absurd h5.1 (by simp [okx]))
    · cases b <;> first | (cases q; done) | (exact absurd h5.2.1 (by simp [okx]))
    · cases c <;> first | (cases q; done) | (exact absurd h5.2.2 (by simp [okx]))), if_pos (by simp [List.eraseDups_cons, Ne.symm n1, Ne.symm n2, Ne.symm n3])]
theorem sw_no {e : Expr} {t : Option Expr} {l : Nat} {env : Env} (h : isCompE e = false) : swapsWith e t l env = pure false := by
  cases e <;> first | rfl | (cases h)
theorem sw_sole {t e : Expr} {l : Nat} {env : Env} : swapsWithSole [t] e l env = swapsWith e (some t) l env := rfl
theorem sw_nm {elt : Expr} {gs : List Comprehension} {scope : Scope} {y : Str} {pos py : Pos} {l : Nat} {env : Env} (hk : env.scope.kind = .function) (h : swB env.scope y py scope pos = false) : swapsWith (.ListComp elt gs scope pos) (some (.Name y py)) l env = pure false := by
  have hb : env.blockKind = .function := by unfold Env.blockKind; rw [hk]; rfl
  unfold swB at h
  unfold swapsWith
  simp only [hb, Expr.pos]
  have e : (env.kindOf y == some NameKind.local) = decide (env.scope.names.lookup y = some .local) := by
    rw [Bool.eq_iff_iff]; simp; rfl
  rw [hk] at h
  simp only [decide_true, Bool.true_and] at h
  have e2 : ((ScopeKind.function == ScopeKind.function) && (env.kindOf y == some NameKind.local) && py.line == pos.line && !(scope.names.any fun (n, k) => n == y && (k == .local || k == .cell))) = false := by
    rw [e]; simpa using h
  exact congrArg pure e2
end

/-- a comprehension in its parts -/
def lcParts (cfg : Cfg) (n : Nat) (sc : Scope) (e : Expr) : Option E := cE n cfg sc e
/-- a statement; f: expressions; g: blocks -/
def cS (f : Expr → Option E) (g : List Stmt → Option Ss) (cfg : Cfg) (sc : Scope) : Stmt → Option S
  | .Expr (.Call (.Attribute (.Name x p) at_ apos) [e] [] cpos) _ =>
    if at_ = "append" ∧ (apos.endLine == cpos.line) = true then (varB cfg.N sc x).bind fun i => (f e).map (.app i ·) else none
  | .Expr e _ => if isCompE e then none else (f e).map .expr
  | .Assign [.Subscript (.Name x _) k _] e _ => if okx k && !isCompE e then (varB cfg.N sc x).bind fun i => (f k).bind fun rk => (f e).map (.setI i rk ·) else none
  | .Assign [.Name y py] e _ =>
    if decide (sc.kind = .function) then
      (cT cfg.N sc (.Name y py)).bind fun t => (match e with
        | .ListComp _ [⟨_, _, _, 0⟩] _ _ => (f e).map (.asg t ·)
        | e => if isCompE e then none else (f e).map (.asg t ·))
    else none
  | .Assign [.Tuple ts kt pt] e _ =>
    (match e with
    | .Tuple vs _ _ => (match ts, vs with
      | [.Name x px, .Name y py], [a, b] =>
        if parB2 sc x y px py [a, b] then (ixOf cfg.N x).bind fun i => (ixOf cfg.N y).bind fun j => (mapEs f [a, b]).map (.par [i, j] ·) else none
      | [.Name x px, .Name y py, .Name z pz], [a, b, c] =>
        if parB3 sc x y z px py pz [a, b, c] then (ixOf cfg.N x).bind fun i => (ixOf cfg.N y).bind fun j => (ixOf cfg.N z).bind fun l => (mapEs f [a, b, c]).map (.par [i, j, l] ·) else none
      | _, _ => none)
    | e => if isCompE e then none else (cT cfg.N sc (.Tuple ts kt pt)).bind fun t => (f e).map (.asg t ·))
  | .Return (some e) _ => (f e).map .ret
  | .Return none _ => some .retN
  | .If c a b _ => (f c).bind fun r => (g a).bind fun s => (g b).map fun t => .ife r s t
  | .For tg it body [] _ => (cT cfg.N sc tg).bind fun t => (cI f cfg.frees sc (isTupE tg) it).bind fun i => (g body).map fun z => .for_ t i z
  | .While c body [] _ => (f c).bind fun r => (g body).map fun z => .whl r z
  | .Raise (some (.Call (.Name x _) [.Constant (.str _) _ _] [] _)) none _ => if glB sc x && dbB x && decide (x ∈ cfg.xcs) then some (.raise x) else none
  | .Pass _ => some .pass
  | .Break _ => some .brk
  | .Continue _ => some .cont
  | _ => none
def mapSs (f : Stmt → Option S) : List Stmt → Option Ss
  | [] => some .nil
  | s :: ss => (f s).bind fun r => (mapSs f ss).map (.cons r ·)
def cSs (n : Nat) (cfg : Cfg) (sc : Scope) : Nat → List Stmt → Option Ss
  | 0, _ => none
  | m + 1, ss => mapSs (cS (cE n cfg sc) (cSs n cfg sc m) cfg sc) ss

structure CtxS (X : Cx) (G : Ctx) (W : WX) (cf : CF) (io : Bool) (cfg : Cfg) (sc : Scope) (k : Nat) : Prop extends CtxOk X G W cf io cfg sc sc k where
  po : PassesOwn (model X.prog X.w) X.A X.env X.xe
section
variable {X : Cx} {G : Ctx} {W : WX} {cf : CF} {wf : Nat} {io : Bool} {cfg : Cfg} {sc : Scope} {k : Nat}
theorem CtxS.r (C : CtxS X G W cf io cfg sc k) : RdyS X G W io := ⟨C.toRdy, C.po⟩
theorem rzok {x : Str} (C : CtxS X G W cf io cfg sc k) (h : glB sc x = true) (hd : dbB x = true) (hx : x ∈ cfg.xcs) : Rz X x := by
  obtain ⟨Ca, B, n1, n2, bm, f1, f2, f3, f4, f5, f6⟩ := C.st.xc x hx
  exact ⟨⟨Ca, B, n1, n2, bm, f1, f2, f3, f4, raises_own f5 f6⟩, C.gl h, (dbB_ok hd).1⟩
theorem sw_none {ts : List Expr} {kt : Nat} {pt : Pos} {e : Expr} {env : Env} (h : ∀ vs k p, e = .Tuple vs k p → False) : swappedStores [.Tuple ts kt pt] e env = pure none := by
  cases e <;> first | rfl | exact (h _ _ _ rfl).elim
theorem lc_inv {n : Nat} {elt tg iter : Expr} {ifs : List Expr} {scope : Scope} {pos : Pos} {r : E} (h : cE n cfg sc (.ListComp elt [⟨tg, iter, ifs, 0⟩] scope pos) = some r) : ∃ m t it is r1, blkC cfg.N sc scope (ownOf cfg.N scope) = true ∧ okx iter = true ∧
    cT cfg.N scope tg = some t ∧ (∀ i ∈ tSlots t, i ∈ (ownOf cfg.N scope).map (·.2)) ∧ cI (cE m cfg sc) cfg.frees sc (isTupE tg) iter = some it ∧ cIfs (cE m cfg (relS scope sc)) ifs = some is ∧ cE m cfg (relS scope sc) elt = some r1 ∧ r = .lc r1 t it is ((ownOf cfg.N scope).map (·.2)) := by
  cases n with
  | zero => simp [cE] at h
  | succ m =>
    simp only [cE] at h
    split at h
    · rename_i q
      rw [Bool.and_eq_true] at q
      simp only [Option.bind_eq_some_iff] at h
      obtain ⟨t, h1, h⟩ := h
      split at h
      · rename_i hs
        simp only [Option.bind_eq_some_iff, Option.map_eq_some_iff] at h
        obtain ⟨it, h2, is, h3, r1, h4, rfl⟩ := h
        exact ⟨m, t, it, is, r1, q.1, q.2, h1, fun i hi => of_decide_eq_true (List.all_eq_true.mp hs i hi), h2, h3, h4, rfl⟩
      · cases h
    · cases h
theorem cS_ok (n : Nat) (C : CtxS X G W cf io cfg sc k) {g : List Stmt → Option Ss} (hg : ∀ ss z, g ss = some z → PSs X ss (tS G W (evSs cf wf io z))) {st : Stmt} {q : S} (h : cS (cE n cfg sc) g cfg sc st = some q) :
    PS X st (tS G W (evS cf wf io q)) := by
  have hf := cE_ok n cfg sc sc X G W k C.toCtxOk
  unfold cS at h
  split at h
  · split at h
    · rename_i c
      obtain ⟨rfl, hl⟩ := c
      simp only [Option.bind_eq_some_iff, Option.map_eq_some_iff] at h
      obtain ⟨i, h1, r, h2, rfl⟩ := h
      exact ps_app C.hK (C.var h1) (hf _ _ h2) hl
    · cases h
  · split at h
    · cases h
    · rename_i hc
      simp only [Option.map_eq_some_iff] at h
      obtain ⟨r, h2, rfl⟩ := h
      exact ps_expr' (hf _ _ h2).pe (sw_no (by simpa using hc))
  · split at h
    · rename_i c
      rw [Bool.and_eq_true, Bool.not_eq_true'] at c
      simp only [Option.bind_eq_some_iff, Option.map_eq_some_iff] at h
      obtain ⟨i, h1, rk, h2, r, h3, rfl⟩ := h
      exact ps_setI C.hK (C.var h1) (hf _ _ h2) (hf _ _ h3).plain (by intro v; rename_i x p k _ _ _; cases k <;> first | rfl | (cases c.1)) (sw_sole.trans (sw_no c.2)) rfl
    · cases h
  · split at h
    · rename_i hk
      have hk := of_decide_eq_true hk
      have hk' : X.env.scope.kind = .function := by rw [C.hsc]; exact hk
      simp only [Option.bind_eq_some_iff] at h
      obtain ⟨t, h1, h⟩ := h
      split at h
      · rename_i y py _ spos _ elt tg iter ifs scope pos
        simp only [Option.map_eq_some_iff] at h
        obtain ⟨r, h2, rfl⟩ := h
        cases hsw : swB sc y py scope pos with
        | false => exact ps_asg' (hf _ _ h2).pe (cT_ok C.toCtxOk h1) (sw_sole.trans (sw_nm hk' (by rw [C.hsc]; exact hsw))) rfl rfl
        | true =>
          obtain ⟨m, t', it, is, r1, b1, b2, b3, b4, b5, b6, b7, rfl⟩ := lc_inv h2
          have hsw2 := hsw
          unfold swB at hsw
          simp only [Bool.and_eq_true, decide_eq_true_eq, Bool.not_eq_true'] at hsw
          obtain ⟨⟨⟨w1, w2⟩, w3⟩, w4⟩ := hsw
          have ok : BlkOk X.N X.env.scope scope (ownOf cfg.N scope) := by rw [C.hN, C.hsc]; exact blkOk_by b1
          obtain ⟨pi, ki⟩ := cI_ok C.toCtxOk (cE_ok m cfg sc sc X G W k C.toCtxOk) b5
          have ht : ∃ i, t = .nm i ∧ X.N[i]? = some y := by
            unfold cT at h1
            simp only [Option.map_eq_some_iff] at h1
            obtain ⟨i, h3, rfl⟩ := h1
            obtain ⟨x', p', e', hx'⟩ := ixNm_ok C.toCtxOk h3
            cases e'
            exact ⟨i, rfl, hx'.ix⟩
          obtain ⟨i, rfl, hy⟩ := ht
          have hyl : X.env.scope.names.lookup y = some .local := by rw [C.hsc]; exact w2
          exact ps_lcSet C.toRdy hy hyl (sw_true hk' hyl w3 w4) pi ok rfl b4 (fun s H Cl cl fp => cT_ok (C.toCtxOk.blk ok s H Cl cl fp) b3)
            (fun s H Cl cl fp => cIfs_ok (cE_ok m cfg (relS scope sc) scope _ G W0 k (C.toCtxOk.blk ok s H Cl cl fp)) b6)
            (fun s H Cl cl fp => (cE_ok m cfg (relS scope sc) scope _ G W0 k (C.toCtxOk.blk ok s H Cl cl fp) _ _ b7).pe) fun x => fs_okx ki X.env x
      · split at h
        · cases h
        · rename_i hc
          simp only [Option.map_eq_some_iff] at h
          obtain ⟨r, h2, rfl⟩ := h
          exact ps_asg' (hf _ _ h2).pe (cT_ok C.toCtxOk h1) (sw_sole.trans (sw_no (by simpa using hc))) rfl rfl
    · cases h
  · split at h
    · split at h
      · split at h
        · rename_i hp
          simp only [Option.bind_eq_some_iff, Option.map_eq_some_iff] at h
          obtain ⟨i, h1, j, h2, rs, h3, rfl⟩ := h
          have hp2 := hp
          unfold parB2 at hp2
          simp only [Bool.and_eq_true, decide_eq_true_eq, Bool.not_eq_true'] at hp2
          obtain ⟨⟨⟨⟨⟨⟨⟨h0, l1⟩, l2⟩, _⟩, n1⟩, _⟩, _⟩, _⟩ := hp2
          have i1 := ixOf_ok h1
          have i2 := ixOf_ok h2
          have hk' : X.env.scope.kind = .function := by rw [C.hsc]; exact h0
          refine ps_par2 C.toRdy (by rw [C.hN]; exact i1) (by rw [C.hN]; exact i2) (fun e => n1 ?_) (by rw [C.hsc]; exact l1) (by rw [C.hsc]; exact l2) (mapEs_ok hf h3) (par2_sw hk' (by rw [C.hsc]; exact hp))
          rw [e, i2] at i1; cases i1; rfl
        · cases h
      · split at h
        · rename_i hp
          simp only [Option.bind_eq_some_iff, Option.map_eq_some_iff] at h
          obtain ⟨i, h1, j, h2, l, h3, rs, h4, rfl⟩ := h
          have hp2 := hp
          unfold parB3 at hp2
          simp only [Bool.and_eq_true, decide_eq_true_eq, Bool.not_eq_true'] at hp2
          obtain ⟨⟨⟨⟨⟨⟨⟨⟨⟨⟨⟨h0, l1⟩, l2⟩, l3⟩, _⟩, _⟩, n1⟩, n2⟩, n3⟩, _⟩, _⟩, _⟩ := hp2
          have i1 := ixOf_ok h1
          have i2 := ixOf_ok h2
          have i3 := ixOf_ok h3
          have hk' : X.env.scope.kind = .function := by rw [C.hsc]; exact h0
          refine ps_par3' C.toRdy (by rw [C.hN]; exact i1) (by rw [C.hN]; exact i2) (by rw [C.hN]; exact i3) (fun e => n1 ?_) (fun e => n2 ?_) (fun e => n3 ?_) (by rw [C.hsc]; exact l1) (by rw [C.hsc]; exact l2) (by rw [C.hsc]; exact l3) (mapEs_ok hf h4) (par3_sw hk' (by rw [C.hsc]; exact hp))
          · rw [e, i2] at i1; cases i1; rfl
          · rw [e, i3] at i1; cases i1; rfl
          · rw [e, i3] at i2; cases i2; rfl
        · cases h
      · cases h
    · rename_i e _ _ _ hne
      split at h
      · cases h
      · rename_i hc
        simp only [Option.bind_eq_some_iff, Option.map_eq_some_iff] at h
        obtain ⟨t, h1, r, h2, rfl⟩ := h
        exact ps_asg' (hf _ _ h2).pe (cT_ok C.toCtxOk h1) (sw_sole.trans (sw_no (by simpa using hc))) (sw_none hne) rfl
  · simp only [Option.map_eq_some_iff] at h
    obtain ⟨r, h2, rfl⟩ := h
    exact ps_ret' C.hio (hf _ _ h2).plain
  · cases h; exact ps_retN'
  · simp only [Option.bind_eq_some_iff, Option.map_eq_some_iff] at h
    obtain ⟨r, h1, z1, h2, z2, h3, rfl⟩ := h
    exact ps_if' (hf _ _ h1).plain (hg _ _ h2) (hg _ _ h3)
  · simp only [Option.bind_eq_some_iff, Option.map_eq_some_iff] at h
    obtain ⟨t, h1, i, h2, z, h3, rfl⟩ := h
    obtain ⟨pi, ki⟩ := cI_ok C.toCtxOk hf h2
    exact ps_for' C.r pi (cT_ok C.toCtxOk h1) (hg _ _ h3) fun x => fs_okx ki X.env x
  · simp only [Option.bind_eq_some_iff, Option.map_eq_some_iff] at h
    obtain ⟨r, h1, z, h3, rfl⟩ := h
    exact ps_whl' C.r (hf _ _ h1).plain (hg _ _ h3)
  · split at h
    · rename_i c
      simp only [Bool.and_eq_true, decide_eq_true_eq] at c
      cases h
      exact ps_raise' (p4 := default) C.toRdy (rzok C c.1.1 c.1.2 c.2)
    · cases h
  · cases h; exact ps_pass'
  · cases h; exact ps_brk'
  · cases h; exact ps_cont'
  · cases h
theorem mapSs_ok {f : Stmt → Option S} (hf : ∀ st q, f st = some q → PS X st (tS G W (evS cf wf io q))) : ∀ {ss : List Stmt} {z : Ss}, mapSs f ss = some z → PSs X ss (tS G W (evSs cf wf io z))
  | [], z, h => by simp [mapSs] at h; subst h; exact pss_no
  | s :: ss, z, h => by
    simp only [mapSs, Option.bind_eq_some_iff, Option.map_eq_some_iff] at h
    obtain ⟨q, h1, z', h2, rfl⟩ := h
    exact pss_st (hf _ _ h1) (mapSs_ok hf h2)
theorem cSs_ok (n : Nat) (C : CtxS X G W cf io cfg sc k) : ∀ (m : Nat) {ss : List Stmt} {z : Ss}, cSs n cfg sc m ss = some z → PSs X ss (tS G W (evSs cf wf io z))
  | 0, ss, z, h => by simp [cSs] at h
  | m + 1, ss, z, h => by
    rw [cSs] at h
    exact mapSs_ok (fun st q hq => cS_ok n C (fun ss z hz => cSs_ok n C m hz) hq) h
end
end PP

namespace PP
open PySem PySem.Spec PyProof.Rows
open L2

theorem lookup_zip : ∀ {ns : List Str} {us : List Value}, ns.Nodup → us.length = ns.length → (ns.filterMap fun n => ((ns.zip us).lookup n).map fun v => (n, v)) = ns.zip us
  | [], [], _, _ => rfl
  | [], _ :: _, _, h => by simp at h
  | n :: ns, [], _, h => by simp at h
  | n :: ns, u :: us, nd, h => by
    rw [List.nodup_cons] at nd
    have ih := lookup_zip (us := us) (ns := ns) nd.2 (by simpa using h)
    rw [List.zip_cons_cons, List.filterMap_cons]
    simp only [List.lookup_cons, beq_self_eq_true, Option.map_some]
    congr 1
    have key : ∀ l : List Str, n ∉ l → (l.filterMap fun m => (match m == n with | true => some u | false => (ns.zip us).lookup m).map fun v => (m, v)) = l.filterMap fun m => ((ns.zip us).lookup m).map fun v => (m, v) := by
      intro l hl
      induction l with
      | nil => rfl
      | cons m l ihl =>
        rw [List.mem_cons, not_or] at hl
        have : (m == n) = false := by
          simp only [beq_eq_false_iff_ne, ne_eq]
          exact fun e => hl.1 e.symm
        rw [List.filterMap_cons, List.filterMap_cons, this, ihl hl.2]
    exact (key ns nd.1).trans ih
theorem lookup_zip_some : ∀ {ns : List Str} {us : List Value} {n : Str}, us.length = ns.length → n ∈ ns → ((ns.zip us).lookup n).isSome = true
  | [], _, _, _, h => by cases h
  | m :: ns, [], _, h, _ => by simp at h
  | m :: ns, u :: us, n, h, hn => by
    rw [List.zip_cons_cons, List.lookup_cons]
    cases e : (n == m) with
    | true => rfl
    | false =>
      have : n ∈ ns := (List.mem_cons.mp hn).resolve_left (by simpa using e)
      exact lookup_zip_some (by simpa using h) this
theorem bind_pos {fd : FuncData} {as : List Arg} (hp : fd.params = ⟨[], as, none, [], [], none, []⟩) (hd : fd.defaults = .none) (nd : (as.map (·.arg)).Nodup) {us : List Value} (hl : us.length = (as.map (·.arg)).length) : bindArgs fd ⟨us, []⟩ = pure ((as.map (·.arg)).zip us) := by
  obtain ⟨n1, n2, n3, n4, n5, n6, n7, n8, n9, n10, n11, n12, n13, n14, n15⟩ := fd
  dsimp only at hp hd
  subst hp hd
  have hl' : us.length = as.length := by simpa using hl
  have hz := lookup_zip nd hl
  have hm : ∀ l : List Str, (∀ n ∈ l, n ∈ as.map (·.arg)) → l.filter (fun n => (((as.map (·.arg)).zip us).lookup n).isNone) = [] := by
    intro l hs
    rw [List.filter_eq_nil_iff]
    intro n hn
    have := lookup_zip_some hl (hs n hn)
    rw [Option.isSome_iff_exists] at this
    obtain ⟨v, hv⟩ := this
    rw [hv]; simp
  unfold bindArgs
  simp only [seqItems?]
  rw [show notAStandIn Value.none = pure () from rfl]
  simp only [pure_bind, bind_pure_comp, map_pure]
  simp [hl']
  rw [hm _ (fun n hn => List.mem_of_mem_take hn)]
  simp
  rw [if_neg (by
    rw [hm _ (fun n hn => ?_)]
    · simp
    · have := List.mem_of_mem_take hn
      simpa using this)]
  have hz' : (as.filterMap ((fun n => Option.map (fun x => (n, x)) (List.lookup n ((List.map (fun x => x.arg) as).zip us))) ∘ fun x => x.arg)) = (as.map (·.arg)).zip us := by
    have q := hz
    rw [List.filterMap_map] at q
    exact q
  rw [hz']
end PP

namespace PP
open PySem PySem.Spec PyProof.Rows
open L2

theorem callF_succ {prog : List FnIR} {wf k j : Nat} {args : List SV} : callF prog wf (k + 1) j args = (match prog[j]? with
    | some fn => if fn.lam && decide (k < 2) then .stuck else runF fn (mixC (callF prog wf k) (callL prog wf k).2.2) wf args
    | none => .stuck) := rfl
theorem callL_two {prog : List FnIR} {wf k : Nat} : (callL prog wf (k + 2)).2.2 = callF prog wf k := rfl

section
variable {K : PySem.W.Frag} {mg : Str → Option Value} {Tb : List (Addr × Str)}
/-- the frame at a def's entry -/
theorem FOk.entry {F H : Hp} {io : Bool} {vs : List V} {args : List SV} {ia : Option Addr} {N : List Str} (hs : Same F H) (tb : LamX.Tabs Tb H) (fn : ∀ b o, F b = some o → Nt o) (h : ArgsOk K F H io vs args ia) (hl : vs.length ≤ N.length) :
    FOk ⟨K, mg, H, F, ia, Tb⟩ (L2.start N vs) F H (args.map some ++ List.replicate (N.length - args.length) none) [] ∧ (io = false → ia = none) ∧ vs.length = args.length := by
  have alen : vs.length = args.length := by
    cases io with
    | false => obtain ⟨_, ds, rfl, hd⟩ := h; rw [hd.length, List.length_map]
    | true => obtain ⟨a, ws, d, ds, rfl, rfl, _, _, _, hd⟩ := h; rw [List.length_cons, List.length_cons, hd.length, List.length_map]
  have gsv : ∀ i s, getS (args.map some ++ List.replicate (N.length - args.length) none) i = some s → args[i]? = some s := fun i s e => by
    unfold getS at e
    by_cases hi : i < args.length
    · rw [List.getElem?_append_left (by rw [List.length_map]; exact hi), List.getElem?_map, List.getElem?_eq_getElem hi] at e
      rw [List.getElem?_eq_getElem hi]
      simpa using e
    · rw [List.getElem?_append_right (by rw [List.length_map]; omega), List.getElem?_replicate] at e
      split at e <;> cases e
  have sgv : ∀ i v, vs[i]? = some v → (L2.start N vs)[i]? = some (some v) := fun i v e => by
    have hi : i < vs.length := (List.getElem?_eq_some_iff.mp e).1
    unfold L2.start
    rw [List.getElem?_append_left (by rw [List.length_map]; exact hi), List.getElem?_map, e]
    rfl
  have own : ∀ i d, args[i]? = some (.own d) → i = 0 ∧ ∃ a, ia = some a ∧ vs[0]? = some (.ref a) ∧ F a = none ∧ Cell K F H a d := fun i d e => by
    cases io with
    | false =>
      obtain ⟨_, ds, rfl, hd⟩ := h
      rw [List.getElem?_map] at e
      cases q : ds[i]? with
      | none => rw [q] at e; cases e
      | some u => rw [q] at e; cases e
    | true =>
      obtain ⟨a, ws, d0, ds, rfl, rfl, rfl, n, c, hd⟩ := h
      cases i with
      | zero => cases e; exact ⟨rfl, a, rfl, rfl, n, c⟩
      | succ i =>
        rw [List.getElem?_cons_succ, List.getElem?_map] at e
        cases q : ds[i]? with
        | none => rw [q] at e; cases e
        | some u => rw [q] at e; cases e
  have own' : ∀ i d, getS (args.map some ++ List.replicate (N.length - args.length) none) i = some (.own d) → i = 0 := fun i d e => (own i d (gsv i _ e)).1
  refine ⟨⟨?_, fun i s e => ?_, fun i j a d e h1 h2 _ _ => by rw [own' i d h1, own' j e h2], fun p hp => by (cases hp), by simp, fun p hp => by (cases hp), hs, Same.refl _, fun b o e _ _ => e, fun b o e => .inl e, fun a z => ?_, fun p hp => by (cases hp), fun a z => ?_, fun i d a e _ _ => own' i d e, tb, fn⟩, fun e => ?_, alen⟩
  · unfold L2.start
    rw [List.length_append, List.length_append, List.length_map, List.length_map, List.length_replicate, List.length_replicate, alen]
  · have e' := gsv i s e
    cases s with
    | own d =>
      obtain ⟨rfl, a, q1, q2, q3, q4⟩ := own i d e'
      exact ⟨.ref a, sgv 0 _ q2, a, rfl, q3, .inr q1, q4⟩
    | val d =>
      cases io with
      | false =>
        obtain ⟨_, ds, rfl, hd⟩ := h
        rw [List.getElem?_map] at e'
        cases q : ds[i]? with
        | none => rw [q] at e'; cases e'
        | some u =>
          rw [q] at e'; cases e'
          obtain ⟨v, hv, dv⟩ := hd.get q
          exact ⟨v, sgv i v hv, dv⟩
      | true =>
        obtain ⟨a, ws, d0, ds, rfl, rfl, rfl, n, c, hd⟩ := h
        cases i with
        | zero => cases e'
        | succ i =>
          rw [List.getElem?_cons_succ, List.getElem?_map] at e'
          cases q : ds[i]? with
          | none => rw [q] at e'; cases e'
          | some u =>
            rw [q] at e'; cases e'
            obtain ⟨v, hv, dv⟩ := hd.get q
            exact ⟨v, sgv (i + 1) v (by rw [List.getElem?_cons_succ]; exact hv), dv⟩
  · cases io with
    | false => rw [h.1] at z; cases z
    | true =>
      obtain ⟨a', ws, d0, ds, rfl, rfl, rfl, n, c, hd⟩ := h
      cases z
      exact sgv 0 _ rfl
  · cases io with
    | false => rw [h.1] at z; cases z
    | true =>
      obtain ⟨a', ws, d0, ds, rfl, rfl, rfl, n, c, hd⟩ := h
      refine ⟨d0, ?_⟩
      unfold getS
      rfl
  · subst e; exact h.1
/-- what stands behind a def -/
theorem FOk.post {F H F' H' : Hp} {ia : Option Addr} {σ : L2.St} {f : Fr} {v : V} {r : SV} {w : Option SV} (h : HasV ⟨K, mg, H, F, ia, Tb⟩ σ F' H' f [] v r) (hw : ∀ a, ia = some a → ∃ o, getS f 0 = some (.own o) ∧ w = some (.own o)) : PostOk K Tb ia F H v r w F' H' := by
  have key : ∀ {ts}, FOk ⟨K, mg, H, F, ia, Tb⟩ σ F' H' f ts → ResOk K F' H' H v r → PostOk K Tb ia F H v r w F' H' := fun {ts} h hr => by
    refine ⟨h.base, h.sub, fun b o e n z => h.keep b o e n z, h.new, h.tab, h.fnt, hr, fun a z => ?_⟩
    obtain ⟨o, e1, e2⟩ := hw a z
    obtain ⟨a', ha, ho⟩ := h.own_at e1
    have hp := h.pin a z
    rw [ha] at hp; cases hp
    exact ⟨o, e2, ho.1, ho.2.2⟩
  cases r with
  | val d => exact key h.2 h.1
  | own d =>
    obtain ⟨p, rfl, h⟩ := h
    obtain ⟨n, hn, c⟩ := h.tmp _ List.mem_cons_self
    exact key h ⟨p, rfl, n, hn.resolve_right (h.tio _ List.mem_cons_self), c⟩
end

/-- what one asks of a def's text: it is told by fn, under cfg -/
structure DefOk (n m : Nat) (cfg : Cfg) (fn : FnIR) (params : Arguments) (body : List Stmt) (scope : Scope) (ps : List Str) : Prop where
  par : ∃ as : List Arg, params = ⟨[], as, none, [], [], none, []⟩ ∧ ps = as.map (·.arg)
  pnd : ps.Nodup
  np : fn.np = ps.length
  ns : fn.ns = cfg.N.length
  sc : FnScope cfg.N ps scope
  body : cSs n cfg scope m body = some fn.body
  lam : fn.lam = cfg.lam.isSome
section
variable {P : Program} {w : World} {K : PySem.W.Frag} {mg : Str → Option Value} {base : Heap} {Tb : List (Addr × Str)} {prog : List FnIR} {wf k : Nat}
theorem DefOk.binds {n m : Nat} {cfg : Cfg} {fn : FnIR} {params : Arguments} {body : List Stmt} {scope : Scope} {ps : List Str} {x qual : Str} {kws : List (Str × V)} {f : Addr} {fd : FuncData} (D : DefOk n m cfg fn params body scope ps) (F : FunD K x qual params body scope [] kws f fd) : L2.Binds K fd ps [] := by
  obtain ⟨as, hp, rfl⟩ := D.par
  exact F.bindsN fun kV doc pm an cdv ct us hl => bind_pos hp rfl D.pnd hl
theorem def_ok {n m j : Nat} {cfg : Cfg} {fn : FnIR} {params : Arguments} {body : List Stmt} {scope : Scope} {ps : List Str} {x qual : Str} {kws : List (Str × V)} {f : Addr} {fd : FuncData} (hj : prog[j]? = some fn) (D : DefOk n m cfg fn params body scope ps) (F : FunD K x qual params body scope [] kws f fd)
    (St : (fn.lam && decide (k < 2)) = false → StOk P w K mg base Tb (mixC (callF prog wf k) (callL prog wf k).2.2) k cfg)
    (L : fn.lam = true → ∃ c Pt, fd.code = .ref c ∧ LamX.TabB base mg c Pt ∧ (Pt, qual ++ ".<locals>." ++ "<lambda>") ∈ Tb ∧ ∀ p ∈ Tb, p.1 = Pt → p.2 = qual ++ ".<locals>." ++ "<lambda>") :
    FnOk P w K mg base (L2.CX P w) (k + 1) f fd ps (spF K mg Tb (callF prog wf (k + 1)) j fn.np fn.io) := by
  obtain ⟨oc, od, dV, kV, doc, pm, an, cdv, ct, osl, rfl, lk, hcd, _, _⟩ := F.ex
  refine fn_of lk hcd D.sc (fun vs H Q E h => by rw [h.1, D.np]) fun A outer s H vs Q E hr hsp => ?_
  obtain ⟨hlen, F0, args, ia, hs, tb, fnt, ha, hsp⟩ := hsp
  rw [callF_succ, hj] at hsp
  dsimp only at hsp
  cases hlam : (fn.lam && decide (k < 2)) with
  | true => rw [hlam] at hsp; exact hsp.elim
  | false =>
    rw [hlam, if_neg Bool.false_ne_true] at hsp
    have hpl : ps.length ≤ cfg.N.length := by have := congrArg List.length D.sc.pre; rw [List.length_take] at this; omega
    have hv : vs.length ≤ cfg.N.length := by rw [hlen, D.np]; exact hpl
    obtain ⟨h0, hio, alen⟩ := FOk.entry (mg := mg) (N := cfg.N) hs tb fnt ha hv
    have hargs : args.length = fn.np := by rw [← alen, hlen]
    have hns : fn.ns - fn.np = cfg.N.length - args.length := by rw [D.ns, hargs]
    unfold runF at hsp
    rw [if_pos hargs, hns] at hsp
    have C : CtxS (cxOf (L2.CX P w) P w K mg base cfg.N qual scope f cdv A outer s H E) ⟨K, mg, H, F0, ia, Tb⟩ (fun cls d _ H => E cls d H) (mixC (callF prog wf k) (callL prog wf k).2.2) fn.io cfg scope k :=
      { hK := rfl, hmg := rfl, hc := rfl, hu := (by have := hr.un; show (A.deeper (envOfC qual scope s.heap.objs.size f cdv)).units + 100 < cLine; omega), hio := hio, tk := takes_of (E := E) rfl rfl rfl rfl, nd := D.sc.nd, room := hr, st := St hlam, hN := rfl, hsc := rfl,
        tgt := (fun y h => by
          unfold locB at h
          split at h
          · rename_i q; exact ⟨.inl q, .inr q⟩
          · rename_i q; exact ⟨.inr q, .inl rfl⟩
          · cases h), lam := (fun h => by
          obtain ⟨c, Pt, e1, e2, e3, e4⟩ := L (by rw [D.lam]; exact h)
          exact ⟨c, Pt, e2, e1, e3, e4⟩), po := passes_of rfl }
    refine ⟨_, cSs_ok (wf := wf) n C m D.body, F0, _, [], h0, ?_⟩
    cases q : evSs (mixC (callF prog wf k) (callL prog wf k).2.2) wf fn.io fn.body (args.map some ++ List.replicate (cfg.N.length - args.length) none) with
    | stuck => rw [q] at hsp; exact hsp
    | raise c =>
      rw [q] at hsp
      exact fun σ H' d u kp tb' hu => hsp H' d u (fun b o e1 e2 e3 => kp b o e1 e2 e3) tb' hu
    | ok p =>
      obtain ⟨g, o⟩ := p
      rw [q, Res.bind_ok] at hsp
      dsimp only at hsp
      -- the answer and what the caller gets back
      have fin : ∀ (r : SV), (match (if fn.io then (match getS g 0 with | some (.own o) => Res.ok (r, some (SV.own o)) | _ => .stuck) else .ok (r, none)) with
          | .ok (r, w) => ∀ v F' H', PostOk K Tb ia F0 H v r w F' H' → Q v H'
          | .raise c => ∀ (H' : Hp) (d : Option Addr) (u : Value), (∀ b o, H b = some o → Nt o → ia ≠ some b → H' b = some o) → LamX.Tabs Tb H' → mg c = some u → E u d H'
          | .stuck => False) → ∀ v σ' F' H', HasV ⟨K, mg, H, F0, ia, Tb⟩ σ' F' H' g [] v r → Q v H' := by
        intro r hq v σ' F' H' hv
        cases hi : fn.io with
        | false =>
          rw [hi, if_neg Bool.false_ne_true] at hq
          refine hq v F' H' (FOk.post hv fun a z => ?_)
          rw [hio hi] at z; cases z
        | true =>
          rw [hi, if_pos rfl] at hq
          cases q0 : getS g 0 with
          | none => rw [q0] at hq; exact hq.elim
          | some s0 =>
            cases s0 with
            | val d => rw [q0] at hq; exact hq.elim
            | own d => rw [q0] at hq; exact hq v F' H' (FOk.post hv fun a z => ⟨d, q0, rfl⟩)
      cases o with
      | nx => exact fun σ' F' H' s1 h1 => fin (.val .none) hsp .non σ' F' H' ⟨.non, h1⟩
      | brk => exact hsp.elim
      | ct => exact hsp.elim
      | rt v => exact fun u σ' F' H' s1 hv => fin v hsp u σ' F' H' hv
end
end PP

namespace PP
open PySem PySem.Spec PyProof.Rows
open L2

/-! ### a whole program -/
structure PRow where
  x : Str
  ps : List Str
  N : List Str
  fns : List (Str × Nat × Nat × Bool)
  lam : Option (List (Str × Nat × Nat × Bool))
  fn : FnIR
  st : Stmt
structure ErRow where
  x : Str
  a : Str
  N : List Str
  hs : List (Str × Str)
  tab : List (Str × Str)
  els : Str
  st : Stmt
structure Data where
  rows : List PRow
  cs : List (Str × D)
  frees : List Str
  xcs : List Str
  ers : List ErRow
def Data.cfg (d : Data) (r : PRow) : Cfg := ⟨r.N, r.fns, d.cs, d.frees, d.ers.map fun e => (e.x, e.tab, e.els), d.xcs, r.lam⟩
def Data.prog (d : Data) : List FnIR := d.rows.map (·.fn)
def bodyOf : Stmt → List Stmt
  | .FunctionDef _ _ b _ _ _ _ _ _ _ => b
  | _ => []
def parsOf : Stmt → Arguments
  | .FunctionDef _ a _ _ _ _ _ _ _ _ => a
  | _ => ⟨[], [], none, [], [], none, []⟩
def scopeOf : Stmt → Scope
  | .FunctionDef _ _ _ _ _ _ sc _ _ _ => sc
  | _ => ⟨.function, [], false, false, []⟩
def ddOf (x : Str) (st : Stmt) : He.DefD := ⟨(x, none), x, x, parsOf st, bodyOf st, scopeOf st, [], []⟩
def Data.fn (d : Data) : List He.DefD := d.rows.map (fun r => ddOf r.x r.st) ++ d.ers.map fun e => ddOf e.x e.st
def Data.tf (d : Data) : List He.Defn := (d.rows.filter fun r => r.lam.isSome).map fun r => (r.x, none)
/-! facts of the head -/
def csB (K : PySem.W.Frag) (p : Str × D) : Bool := match p.2 with
  | .int i => (He.Fa.int p.1 i).ok K
  | .str z => (He.Fa.str p.1 z).ok K
  | .tuple ds => (He.Fa.glo p.1).ok K && (match ds.mapM (fun | .int i => some (He.Dv.int i) | .str z => some (He.Dv.str z) | _ => none) with
    | some vs => He.tupB K p.1 vs
    | none => false)
  | _ => false
def chainB (K : PySem.W.Frag) (c o : Str) : List (Str × Str) → Bool
  | [] => false
  | (y, z) :: r => match PySem.W.exmOne K (.ref (He.ga K c)) (.ref (He.ga K y)) with
    | some true => decide (z = o)
    | some false => chainB K c o r
    | none => false
def erB (K : PySem.W.Frag) (e : ErRow) : Bool := (He.Fa.glo e.x).ok K && (e.hs.all fun p => (He.Fa.glo p.1).ok K) && e.tab.all fun p => (He.Fa.glo p.1).ok K && chainB K p.1 p.2 e.hs
def Data.ex (d : Data) (K : PySem.W.Frag) : Bool := d.cs.all (csB K) && (d.frees.all (fun x => (He.Fa.free x).ok K)) && (d.xcs.all fun x => (He.Fa.glo x).ok K && (He.Fa.exc x).ok K) && d.ers.all (erB K) && (d.rows.all fun r => (He.Fa.glo r.x).ok K) &&
  decide ((d.tf.map fun p => (He.cT K p).2).Nodup) && d.tf.all fun p => !((He.cT K p).2 == mainGlobals)

/-! ### what is asked of the texts -/
def parB (ps : List Str) : Arguments → Bool
  | ⟨[], as, none, [], [], none, []⟩ => decide (ps = as.map (·.arg)) && decide ps.Nodup
  | _ => false
def scB (N ps : List Str) (sc : Scope) : Bool := decide (sc.kind = .function) && !sc.isCoroutine && !sc.isGenerator && decide N.Nodup && decide (N.take ps.length = ps) && (ps.all fun x => locB sc x) && sc.names.all fun y => decide (y.2 ≠ .free)
def fnsB (rows : List PRow) (off : Nat) (fns : List (Str × Nat × Nat × Bool)) : Bool := fns.all fun q => decide (off ≤ q.2.1) && decide (q.2.1 < off + lamOff) && (match rows[q.2.1 - off]? with
  | some r => decide (r.x = q.1) && decide (r.fn.np = q.2.2.1) && (r.fn.io == q.2.2.2)
  | none => false)
def rowB (d : Data) (r : PRow) : Bool := parB r.ps (parsOf r.st) && decide (r.fn.np = r.ps.length) && decide (r.fn.ns = r.N.length) && scB r.N r.ps (scopeOf r.st) && (r.fn.lam == r.lam.isSome) && fnsB d.rows 0 r.fns && fnsB d.rows lamOff (r.lam.getD [])
def hdB (sc : Scope) : List ExceptHandler → List (Str × Str) → Bool
  | [], [] => true
  | .ExceptHandler (some (.Name e _)) none [.Return (some (.Constant (.str ret) _ _)) _] _ :: hds, (c, o) :: hs => decide (e = c) && decide (ret = o) && glB sc e && dbB e && hdB sc hds hs
  | _, _ => false
def erT (e : ErRow) : Bool := parB [e.a] (parsOf e.st) && scB e.N [e.a] (scopeOf e.st) && visB (scopeOf e.st) e.a && dbB e.a && (match bodyOf e.st with
  | [.Try [.Expr (.Call (.Name a _) [] [] _) _] (h₀ :: hds) [] [] _, .Return (some (.Constant (.str els) _ _)) _] => decide (a = e.a) && decide (els = e.els) && hdB (scopeOf e.st) (h₀ :: hds) e.hs
  | _ => false)
theorem parB_ok {ps : List Str} {a : Arguments} (h : parB ps a = true) : (∃ as : List Arg, a = ⟨[], as, none, [], [], none, []⟩ ∧ ps = as.map (·.arg)) ∧ ps.Nodup := by
  unfold parB at h
  split at h
  · rename_i as
    rw [Bool.and_eq_true] at h
    exact ⟨⟨as, rfl, of_decide_eq_true h.1⟩, of_decide_eq_true h.2⟩
  · cases h
theorem scB_ok {N ps : List Str} {sc : Scope} (h : scB N ps sc = true) : FnScope N ps sc := by
  unfold scB at h
  simp only [Bool.and_eq_true, decide_eq_true_eq, Bool.not_eq_true', List.all_eq_true] at h
  obtain ⟨⟨⟨⟨⟨⟨h1, h2⟩, h3⟩, h4⟩, h5⟩, h6⟩, h7⟩ := h
  refine ⟨h1, h2, h3, h4, h5, fun x hx => ?_, h7⟩
  have q := h6 x hx
  unfold locB at q
  split at q
  · rename_i e; exact .inl e
  · rename_i e; exact .inr e
  · cases q
theorem fnsB_ok {rows : List PRow} {off : Nat} {fns : List (Str × Nat × Nat × Bool)} (h : fnsB rows off fns = true) {x : Str} {j np : Nat} {io : Bool} (e : fns.lookup x = some (j, np, io)) :
    ∃ j', j = off + j' ∧ j' < lamOff ∧ ∃ r, rows[j']? = some r ∧ r.x = x ∧ r.fn.np = np ∧ r.fn.io = io := by
  have hm := PySem.mem_of_lookup e
  have q := List.all_eq_true.mp h _ hm
  simp only [Bool.and_eq_true, decide_eq_true_eq] at q
  obtain ⟨⟨q1, q2⟩, q3⟩ := q
  split at q3
  · rename_i r hr
    simp only [Bool.and_eq_true, decide_eq_true_eq, beq_iff_eq] at q3
    exact ⟨j - off, by omega, by omega, r, hr, q3.1.1, q3.1.2, q3.2⟩
  · cases q3
theorem rowB_ok {d : Data} {r : PRow} {n m : Nat} (h : rowB d r = true) (hb : cSs n (d.cfg r) (scopeOf r.st) m (bodyOf r.st) = some r.fn.body) : DefOk n m (d.cfg r) r.fn (parsOf r.st) (bodyOf r.st) (scopeOf r.st) r.ps ∧ fnsB d.rows 0 r.fns = true ∧ fnsB d.rows lamOff (r.lam.getD []) = true := by
  unfold rowB at h
  simp only [Bool.and_eq_true, decide_eq_true_eq, beq_iff_eq] at h
  obtain ⟨⟨⟨⟨⟨⟨h1, h2⟩, h3⟩, h4⟩, h5⟩, h6⟩, h7⟩ := h
  exact ⟨⟨(parB_ok h1).1, (parB_ok h1).2, h2, h3, scB_ok h4, hb, h5⟩, h6, h7⟩

section
variable {K : PySem.W.Frag} {h : Heap} {mg : Str → Option Value}
theorem dv_dp {F : Hp} : ∀ {ds : List D} {vs : List He.Dv}, ds.mapM (fun | .int i => some (He.Dv.int i) | .str z => some (He.Dv.str z) | _ => none) = some vs → DpAll K F (vs.map (He.Dv.v K)) ds
  | [], vs, e => by
    simp only [List.mapM_nil] at e
    cases e; exact .nil
  | x :: ds, vs, e => by
    rw [List.mapM_cons] at e
    simp only [Option.bind_eq_bind, Option.bind_eq_some_iff, Option.pure_def, Option.some.injEq] at e
    obtain ⟨v, e1, vs', e2, rfl⟩ := e
    have := dv_dp (F := F) e2
    cases x <;> simp at e1
    · subst e1; exact .cons (.int _) this
    · subst e1; exact .cons (.str _) this
theorem csB_ok (X : K.In h) (G : h.Ns mainGlobals mg) {x : Str} {dv : D} (e : csB K (x, dv) = true) : ∃ v u, mg x = some u ∧ RelV v u ∧ ∀ F, Dp K F v dv := by
  unfold csB at e
  split at e
  · rename_i i e0
    cases e0
    obtain ⟨t, ht⟩ := He.int_ok X G e
    exact ⟨.int _, _, ht, ⟨t, rfl⟩, fun F => .int _⟩
  · rename_i i e0
    cases e0
    obtain ⟨t, ht⟩ := He.str_ok X G e
    exact ⟨.str _, _, ht, ⟨t, rfl⟩, fun F => .str _⟩
  · rename_i ds e0
    cases e0
    rw [Bool.and_eq_true] at e
    obtain ⟨e1, e2⟩ := e
    split at e2
    · rename_i vs hv
      exact ⟨.ref _, _, He.glo_ok X G e1, rfl, fun F => .tup (He.tupB_ok e2 F) (dv_dp hv)⟩
    · cases e2
  · cases e
theorem chain_ok {c o : Str} {Q : Str → Prop} (hq : Q o) : ∀ {hs : List (Str × Str)}, chainB K c o hs = true → wErr K Q (hs.map fun p => (Value.ref (He.ga K p.1), p.2)) (.ref (He.ga K c))
  | [], e => by cases e
  | (y, z) :: r, e => by
    rw [chainB] at e
    split at e
    · rename_i q
      have := of_decide_eq_true e
      subst this
      exact ⟨true, q, fun _ => hq, fun h => (by cases h)⟩
    · rename_i q
      exact ⟨false, q, fun h => (by cases h), fun _ => chain_ok hq e⟩
    · cases e
theorem hdB_ok {sc : Scope} {hds : List ExceptHandler} {hs : List (Str × Str)} (e : hdB sc hds hs = true) (hm : ∀ p ∈ hs, mg p.1 = some (.ref (He.ga K p.1))) : HdE sc mg hds (hs.map fun p => (Value.ref (He.ga K p.1), p.2)) := by
  fun_induction hdB sc hds hs with
  | case1 => exact .nil
  | case2 en p4 ret j p5 p6 p7 hds c o hs ih =>
    simp only [Bool.and_eq_true, decide_eq_true_eq] at e
    obtain ⟨⟨⟨⟨rfl, rfl⟩, e3⟩, e4⟩, e5⟩ := e
    refine .cons ?_ (dbB_ok e4).1 (hm _ List.mem_cons_self) (ih e5 fun p hp => hm p (List.mem_cons_of_mem _ hp))
    unfold glB at e3
    split at e3
    · assumption
    · cases e3
  | case3 => cases e
theorem er_ok (X : K.In h) (G : h.Ns mainGlobals mg) {e : ErRow} (hT : erT e = true) (hK : erB K e = true) {fd : FuncData} (F : FunD K e.x e.x (parsOf e.st) (bodyOf e.st) (scopeOf e.st) [] [] (He.ga K e.x) fd) : ErOk K mg e.x e.tab e.els := by
  unfold erT at hT
  simp only [Bool.and_eq_true] at hT
  obtain ⟨⟨⟨⟨t1, t2⟩, t3⟩, t4⟩, t5⟩ := hT
  unfold erB at hK
  simp only [Bool.and_eq_true, List.all_eq_true] at hK
  obtain ⟨⟨k1, k2⟩, k3⟩ := hK
  split at t5
  · rename_i a p1 p2 p3 h₀ hds p8 els j p5 p6 hb
    simp only [Bool.and_eq_true, decide_eq_true_eq] at t5
    obtain ⟨⟨rfl, rfl⟩, t7⟩ := t5
    obtain ⟨oc, od, dV, kV, doc, pm, an, cdv, ct, osl, e1, lk, hcd, hD, _⟩ := F.ex
    have S := scB_ok t2
    obtain ⟨⟨as, hp, hps⟩, pnd⟩ := parB_ok t1
    have hb2 : L2.Binds K fd [e.a] [] := by
      have := F.bindsN (ps := as.map (·.arg)) fun kV doc pm an cdv ct us hl => bind_pos hp rfl (by rw [← hps]; exact pnd) hl
      rw [hps]; exact this
    rw [hb] at e1
    rw [e1] at lk hb2
    have hN0 : e.N[0]? = some e.a := by
      have := S.pre
      cases hn : e.N with
      | nil => rw [hn] at this; cases this
      | cons y ys => rw [hn] at this; simp at this; rw [this]; rfl
    have hvis : Vis (scopeOf e.st) e.a := by
      unfold visB at t3
      unfold Vis
      split at t3
      · rename_i q; exact .inl q
      · rename_i q; exact .inr (.inl q)
      · rename_i q; exact .inr (.inr q)
      · cases t3
    refine ⟨He.ga K e.x, parsOf e.st, scopeOf e.st, dV, kV, doc, pm, cdv, ct, oc, an, od, osl, e.N, e.a, h₀, hds, _, p1, p2, p3, p5, p6, p8, j, He.glo_ok X G k1, F.kp, lk, hcd, hb2, S, hN0, hvis, hdB_ok t7 fun p hp => He.glo_ok X G (k2 p hp), ?_, t4⟩
    intro c o u Q hl hu hq
    have hm := PySem.mem_of_lookup hl
    have q := k3 _ hm
    rw [He.glo_ok X G q.1] at hu
    cases hu
    exact chain_ok hq q.2
  · cases t5
end
end PP

namespace PP
open PySem PySem.Spec PyProof.Rows
open L2

/-- the texts of the rows are told by their IR -/
def RowsOk (d : Data) (n m : Nat) : Prop := ∀ r ∈ d.rows, rowB d r = true ∧ cSs n (d.cfg r) (scopeOf r.st) m (bodyOf r.st) = some r.fn.body
structure Known (d : Data) (K : PySem.W.Frag) (mg : Str → Option Value) (base : Heap) (Tb : List (Addr × Str)) : Prop where
  row : ∀ r ∈ d.rows, ∃ fd, FunD K r.x r.x (parsOf r.st) (bodyOf r.st) (scopeOf r.st) [] [] (He.ga K r.x) fd ∧ mg r.x = some (.ref (He.ga K r.x)) ∧
    (r.lam.isSome = true → ∃ c Pt, fd.code = .ref c ∧ LamX.TabB base mg c Pt ∧ (Pt, r.x ++ ".<locals>." ++ "<lambda>") ∈ Tb ∧ ∀ p ∈ Tb, p.1 = Pt → p.2 = r.x ++ ".<locals>." ++ "<lambda>")
  cs : ∀ x v, d.cs.lookup x = some v → ∃ y u, mg x = some u ∧ RelV y u ∧ ∀ F, Dp K F y v
  fr : ∀ x ∈ d.frees, mg x = none
  er : ∀ x tab els, (d.ers.map fun e => (e.x, e.tab, e.els)).lookup x = some (tab, els) → ErOk K mg x tab els
  xc : ∀ x ∈ d.xcs, RzOk K mg x
section
variable {P : Program} {w : World} {K : PySem.W.Frag} {mg : Str → Option Value} {base : Heap} {Tb : List (Addr × Str)} {d : Data} {n m wf : Nat}
def AllOk (P : Program) (w : World) (K : PySem.W.Frag) (mg : Str → Option Value) (base : Heap) (Tb : List (Addr × Str)) (d : Data) (wf k : Nat) : Prop :=
  ∀ (j : Nat) (r : PRow), d.rows[j]? = some r → ∃ fd, FunD K r.x r.x (parsOf r.st) (bodyOf r.st) (scopeOf r.st) [] [] (He.ga K r.x) fd ∧ FnOk P w K mg base (L2.CX P w) k (He.ga K r.x) fd r.ps (spF K mg Tb (callF d.prog wf k) j r.fn.np r.fn.io) ∧ mg r.x = some (.ref (He.ga K r.x)) ∧ PySem.W.keepIn K (.ref (He.ga K r.x)) = true ∧ L2.Binds K fd r.ps []
theorem spF_eq {cf cf' : CF} {j j' np : Nat} {io : Bool} (h : ∀ args, cf j args = cf' j' args) : spF K mg Tb cf j np io = spF K mg Tb cf' j' np io := by
  funext vs H Q E
  unfold spF
  simp only [h]
theorem fns_of {k off : Nat} {cf : CF} {fns : List (Str × Nat × Nat × Bool)} (A : AllOk P w K mg base Tb d wf k) (hb : fnsB d.rows off fns = true) (hc : ∀ j args, j < lamOff → cf (off + j) args = callF d.prog wf k j args) : FnsOk P w K mg base Tb cf k fns := by
  intro x j np io e
  obtain ⟨j', rfl, hj, r, hr, rfl, rfl, rfl⟩ := fnsB_ok hb e
  obtain ⟨fd, _, h1, h2, h3, h4⟩ := A j' r hr
  refine ⟨_, fd, r.ps, ?_, h2, h3, h4⟩
  rw [spF_eq (cf' := callF d.prog wf k) (j' := j') fun args => hc j' args hj]
  exact h1
theorem rows_ok (T : RowsOk d n m) (Kn : Known d K mg base Tb) : ∀ k, AllOk P w K mg base Tb d wf k := by
  intro k
  induction k using Nat.strongRecOn with
  | ind k ih =>
    intro j r hr
    have hm : r ∈ d.rows := List.mem_of_getElem? hr
    obtain ⟨fd, F, hg, hl⟩ := Kn.row r hm
    obtain ⟨t1, t2⟩ := T r hm
    obtain ⟨D, f1, f2⟩ := rowB_ok t1 t2
    refine ⟨fd, F, ?_, hg, F.kp, D.binds F⟩
    cases k with
    | zero => exact ⟨fun vs H Q E h => by rw [h.1, D.np], fun A outer s H args us vs Q E hr e0 hb rv h => by
        obtain ⟨_, _, _, _, _, _, _, _, h⟩ := h
        exact h.elim⟩
    | succ k =>
      have hj : d.prog[j]? = some r.fn := by unfold Data.prog; rw [List.getElem?_map, hr]; rfl
      refine def_ok hj D F (fun hlam => ⟨fns_of (ih k (Nat.lt_succ_self k)) f1 fun j args hj => by rw [Nat.zero_add]; exact if_pos hj, Kn.cs, Kn.fr, Kn.er, Kn.xc, fun fl hfl => ?_⟩) fun h => ?_
      · have hf : r.lam = some fl := hfl
        have h1 : r.fn.lam = true := by rw [D.lam, show (d.cfg r).lam = r.lam from rfl, hf]; rfl
        rw [h1, Bool.true_and, decide_eq_false_iff_not] at hlam
        obtain ⟨k', rfl⟩ : ∃ k', k = k' + 2 := ⟨k - 2, by omega⟩
        refine ⟨k', rfl, fns_of (off := lamOff) (ih k' (by omega)) (by rw [hf] at f2; exact f2) fun j args hj => ?_⟩
        unfold mixC
        rw [if_neg (by omega), Nat.add_sub_cancel_left, callL_two]
      · exact hl (by rw [D.lam] at h; exact h)
end
/-! ### the law -/
theorem ex_parts {d : Data} {K : PySem.W.Frag} (h : d.ex K = true) : (∀ p ∈ d.cs, csB K p = true) ∧ (∀ x ∈ d.frees, (He.Fa.free x).ok K = true) ∧ (∀ x ∈ d.xcs, (He.Fa.glo x).ok K = true ∧ (He.Fa.exc x).ok K = true) ∧ (∀ e ∈ d.ers, erB K e = true) ∧ (∀ r ∈ d.rows, (He.Fa.glo r.x).ok K = true) ∧
    (d.tf.map fun p => (He.cT K p).2).Nodup := by
  unfold Data.ex at h
  simp only [Bool.and_eq_true, List.all_eq_true, decide_eq_true_eq] at h
  obtain ⟨⟨⟨⟨⟨⟨h1, h2⟩, h3⟩, h4⟩, h5⟩, h6⟩, _⟩ := h
  exact ⟨h1, h2, h3, h4, h5, h6⟩
def tbOf (d : Data) (K : PySem.W.Frag) : List (Addr × Str) := d.tf.map fun p => ((He.cT K p).2, p.1 ++ ".<locals>." ++ "<lambda>")
theorem er_lookup {d : Data} {x : Str} {tab : List (Str × Str)} {els : Str} (h : (d.ers.map fun e => (e.x, e.tab, e.els)).lookup x = some (tab, els)) : ∃ e ∈ d.ers, e.x = x ∧ e.tab = tab ∧ e.els = els := by
  have hm := PySem.mem_of_lookup h
  obtain ⟨e, he, e'⟩ := List.mem_map.mp hm
  cases e'
  exact ⟨e, he, rfl, rfl, rfl⟩
theorem nodup_inj {α β : Type} {f : α → β} : ∀ {l : List α}, (l.map f).Nodup → ∀ a ∈ l, ∀ b ∈ l, f a = f b → a = b
  | [], _, a, ha, _, _, _ => by cases ha
  | x :: l, h, a, ha, b, hb, e => by
    rw [List.map_cons, List.nodup_cons] at h
    rcases List.mem_cons.mp ha with ea | ha'
    · rcases List.mem_cons.mp hb with eb | hb'
      · rw [ea, eb]
      · exact (h.1 (List.mem_map.mpr ⟨b, hb', by rw [← e, ea]⟩)).elim
    · rcases List.mem_cons.mp hb with eb | hb'
      · exact (h.1 (List.mem_map.mpr ⟨a, ha', by rw [e, eb]⟩)).elim
      · exact nodup_inj h.2 a ha' b hb' e
theorem known_of {d : Data} {w : World} {h h0 base : Heap} {K : PySem.W.Frag} {mg : Str → Option Value} (hE : ∀ e ∈ d.ers, erT e = true) (S : He.SaysX [] d.fn [] d.tf d.ex w h K) (X : K.In base) (G : base.Ns mainGlobals mg)
    (TB : ∀ p ∈ d.tf.map (He.cT K), LamX.TabB base mg p.1 p.2) : Known d K mg base (tbOf d K) := by
  obtain ⟨e1, e2, e3, e4, e5, e6⟩ := ex_parts S.more
  have fun_ : ∀ x st, ddOf x st ∈ d.fn → ∃ fd, FunD K x x (parsOf st) (bodyOf st) (scopeOf st) [] [] (He.ga K x) fd := fun x st hx => S.t.d.defs hx
  refine ⟨fun r hr => ?_, fun x v hx => csB_ok X G (e1 _ (PySem.mem_of_lookup hx)), fun x hx => He.free_ok X G (e2 x hx), fun x tab els hx => ?_, fun x hx => ?_⟩
  · obtain ⟨fd, F⟩ := fun_ r.x r.st (List.mem_append_left _ (List.mem_map.mpr ⟨r, hr, rfl⟩))
    refine ⟨fd, F, He.glo_ok X G (e5 r hr), fun hl => ?_⟩
    have ht : ((r.x, none) : He.Defn) ∈ d.tf := List.mem_map.mpr ⟨r, List.mem_filter.mpr ⟨hr, hl⟩, rfl⟩
    obtain ⟨oc, od, dV, kV, doc, pm, an, cdv, ct, osl, rfl, lk, hcd, _, _⟩ := F.ex
    obtain ⟨c, rfl⟩ := He.codeIn_ref hcd
    have hc : He.codeOf K (r.x, none) = c := He.codeOf_eq (p := (r.x, none)) lk rfl
    refine ⟨c, (He.cT K (r.x, none)).2, rfl, ?_, List.mem_map.mpr ⟨_, ht, rfl⟩, fun p hp e => ?_⟩
    · have := TB _ (List.mem_map.mpr ⟨_, ht, rfl⟩)
      have e' : (He.cT K (r.x, none)).1 = c := hc
      rw [e'] at this
      exact this
    · obtain ⟨q, hq, rfl⟩ := List.mem_map.mp hp
      have := nodup_inj e6 q hq _ ht e
      rw [this]
  · obtain ⟨e, he, rfl, rfl, rfl⟩ := er_lookup hx
    obtain ⟨fd, F⟩ := fun_ e.x e.st (List.mem_append_right _ (List.mem_map.mpr ⟨e, he, rfl⟩))
    exact er_ok X G (hE e he) (e4 e he) F
  · obtain ⟨c1, c2⟩ := e3 x hx
    obtain ⟨x1, x2, x3, x4⟩ := He.exc_ok c2
    exact ⟨_, "ValueError", "ValueError.__new__", "ValueError.__init__", He.veBase, PySem.F.excBase_ValueError, x1, He.glo_ok X G c1, x2, x3, x4⟩
def oneAt (H : Hp) (b : Addr) : Hp := fun c => if c = b then H b else none
theorem oneAt_some {H : Hp} {b c : Addr} {o : HO} (e : oneAt H b c = some o) : c = b ∧ H b = some o := by
  unfold oneAt at e
  split at e
  · rename_i h; exact ⟨h, e⟩
  · cases e
/-- the law: what the walk gives of it -/
theorem law_at {l : PySem.W.OpenLaw} {d : Data} {n m wf k jl most : Nat} {rl : PRow} {a : Str} (T : RowsOk d n m) (hE : ∀ e ∈ d.ers, erT e = true) (hjl : d.rows[jl]? = some rl) (hio : rl.fn.io = false) (hps : rl.ps = [a])
    (plain : ∀ ns : List Int, ns.length ≤ most → (∀ z ∈ ns, Builtin.Int.intBits z ≤ 1048576) → callF d.prog wf k jl [.val (.list (ns.map PyData.int))] = .ok (.val (.bool true), none))
    {w : World} {mg : Str → Option Value} {fa : Addr} {h : Heap} (Y : ∃ K : PySem.W.Frag, K.In h ∧ He.SaysX [] d.fn [] d.tf d.ex w h K) (G : h.Ns mainGlobals mg) (hfa : mg rl.x = some (.ref fa)) :
    ∃ K : PySem.W.Frag, K.In h ∧ LamX.LawAtS l w K (L2.CX l.prog w) k most a mg fa h := by
  obtain ⟨K, KX, S⟩ := Y
  refine ⟨K, KX, ?_⟩
  obtain ⟨e1, e2, e3, e4, e5, e6⟩ := ex_parts S.more
  have hm : rl ∈ d.rows := List.mem_of_getElem? hjl
  have ef : fa = He.ga K rl.x := by
    have := He.glo_ok KX G (e5 rl hm)
    rw [hfa] at this
    cases this; rfl
  subst ef
  obtain ⟨fd, F⟩ := S.t.d.defs (d := ddOf rl.x rl.st) (List.mem_append_left _ (List.mem_map.mpr ⟨rl, hm, rfl⟩))
  have F : FunD K rl.x rl.x (parsOf rl.st) (bodyOf rl.st) (scopeOf rl.st) [] [] (He.ga K rl.x) fd := F
  obtain ⟨t1, t2⟩ := T rl hm
  obtain ⟨D, f1, f2⟩ := rowB_ok t1 t2
  obtain ⟨as, hp, hps2⟩ := D.par
  have uniq : ∀ fd', FunD K rl.x rl.x (parsOf rl.st) (bodyOf rl.st) (scopeOf rl.st) [] [] (He.ga K rl.x) fd' → fd' = fd := fun fd' F' => by
    obtain ⟨_, _, _, _, _, _, _, _, _, _, _, lk, _⟩ := F.ex
    obtain ⟨_, _, _, _, _, _, _, _, _, _, _, lk', _⟩ := F'.ex
    rw [lk] at lk'
    injection lk' with q
    injection q with _ _ q _
    injection q with q
    exact q.symm
  refine ⟨fd, d.tf.map (He.cT K), spF K mg (tbOf d K) (callF d.prog wf k) jl rl.fn.np rl.fn.io, fun p hp => ?_, fun p hp => ?_, fun p hp => ?_, fun s u => ?_, fun H b ns hl hbits hT hS => ?_, fun base X' G' TB => ?_⟩
  · obtain ⟨q, hq, rfl⟩ := List.mem_map.mp hp
    exact S.empty q hq
  · obtain ⟨q, hq, rfl⟩ := List.mem_map.mp hp
    exact S.out q hq
  · obtain ⟨q, hq, rfl⟩ := List.mem_map.mp hp
    exact PySem.W.codeHd_of_K KX (S.hd q hq)
  · have b := F.bindsA (ps := rl.ps) (fun kV doc pm an cdv ct us hl => by rw [hps2] at hl ⊢; exact bind_pos hp rfl (by rw [← hps2]; exact D.pnd) hl) s [u] (by rw [hps]; rfl)
    rw [hps] at b
    exact b
  · have tabs : LamX.Tabs (tbOf d K) H := fun p hp => by
      obtain ⟨q, hq, rfl⟩ := List.mem_map.mp hp
      exact LamX.TabS.nil (hT _ (List.mem_map.mpr ⟨q, hq, rfl⟩))
    refine ⟨by rw [D.np, hps]; rfl, ?_⟩
    have fin : ∀ F0 : Hp, Same F0 H → (∀ b o, F0 b = some o → Nt o) → SqL K F0 b (ns.map V.int) → ∃ F args ia, Same F H ∧ LamX.Tabs (tbOf d K) H ∧ (∀ b o, F b = some o → Nt o) ∧ ArgsOk K F H rl.fn.io [.ref b] args ia ∧ (match callF d.prog wf k jl args with
        | .ok (r, w) => ∀ v F' H', PostOk K (tbOf d K) ia F H v r w F' H' → v = .bl true
        | .raise c => ∀ (H' : Hp) (dd : Option Addr) (u : Value), (∀ b o, H b = some o → Nt o → ia ≠ some b → H' b = some o) → LamX.Tabs (tbOf d K) H' → mg c = some u → False
        | .stuck => False) := fun F0 hs hn hq => by
      refine ⟨F0, [.val (.list (ns.map PyData.int))], none, hs, tabs, hn, ?_, ?_⟩
      · rw [hio]
        exact ⟨rfl, [.list (ns.map PyData.int)], rfl, .cons (.lst hq (L2.DpAll.ints ns)) .nil⟩
      · rw [plain ns hl hbits]
        intro v F' H' Pk
        have := Pk.res
        cases this
        rfl
    rcases hS with (hS | ⟨o, hS⟩) | hS
    · refine fin (oneAt H b) (fun c o e => ?_) (fun c o e => ?_) (.inl (.inl ?_))
      · obtain ⟨rfl, e⟩ := oneAt_some e; exact e
      · obtain ⟨rfl, e⟩ := oneAt_some e; rw [hS] at e; cases e; exact nt_lst
      · exact (if_pos rfl).trans hS
    · refine fin (oneAt H b) (fun c o e => ?_) (fun c o e => ?_) (.inl (.inr ⟨o, ?_⟩))
      · obtain ⟨rfl, e⟩ := oneAt_some e; exact e
      · obtain ⟨rfl, e⟩ := oneAt_some e; rw [hS] at e; cases e; intro ps z; cases z
      · exact (if_pos rfl).trans hS
    · exact fin (fun _ => none) (fun c o e => by cases e) (fun c o e => by cases e) (.inr hS)
  · have Kn := known_of (h0 := h) hE S X' G' TB
    obtain ⟨fd2, F2, h1, _, _, _⟩ := rows_ok (P := l.prog) (w := w) (wf := wf) T Kn k jl rl hjl
    obtain rfl := uniq fd2 F2
    rw [hps] at h1
    exact h1
end PP

namespace PP
open PySem PySem.Spec PyProof.Rows

/-! ### walking through E by simp: what stands behind waits -/
/-- a mark that simp does not go beyond -/
structure Tg {α β : Type} (f : α → Res β) : Type where
def bd {α β : Type} (x : Res α) (f : α → Res β) (_ : Tg f) : Res β := Res.bind x f
@[simp] theorem bd_ok {α β : Type} {a : α} {f : α → Res β} {t : Tg f} : bd (.ok a) f t = f a := rfl
@[simp] theorem bd_raise {α β : Type} {c : Str} {f : α → Res β} {t : Tg f} : bd (.raise c) f t = .raise c := rfl
def om {α β : Type} (x : Option α) (f : α → Res β) (_ : Tg f) : Res β := Res.bind (.ofOpt x) f
@[simp] theorem om_some {α β : Type} {a : α} {f : α → Res β} {t : Tg f} : om (some a) f t = f a := rfl
def thenO (cf : CF) (wf : Nat) (io : Bool) (z : Ss) (p : Fr × Out) : Res (Fr × Out) := match p.2 with
    | .nx => evSs cf wf io z p.1
    | o => .ok (p.1, o)
def ifR {α : Type} (t : Bool) (a b : Unit → Res α) (_ : Tg a) (_ : Tg b) : Res α := if t then a () else b ()
@[simp] theorem ifR_t {α : Type} {a b : Unit → Res α} {x : Tg a} {y : Tg b} : ifR true a b x y = a () := rfl
@[simp] theorem ifR_f {α : Type} {a b : Unit → Res α} {x : Tg a} {y : Tg b} : ifR false a b x y = b () := rfl
section
variable {cf : CF} {wf : Nat} {io : Bool} {fr : Fr} {r r1 r2 r3 : E} {rs : Es} {q : S} {z z1 z2 : Ss}
@[simp] theorem thenO_nx : thenO cf wf io z (fr, .nx) = evSs cf wf io z fr := rfl
@[simp] theorem thenO_rt {v : SV} : thenO cf wf io z (fr, .rt v) = .ok (fr, .rt v) := rfl
@[simp] theorem thenO_ct : thenO cf wf io z (fr, .ct) = .ok (fr, .ct) := rfl
@[simp] theorem thenO_brk : thenO cf wf io z (fr, .brk) = .ok (fr, .brk) := rfl
@[simp] theorem w_nil : evSs cf wf io .nil fr = .ok (fr, .nx) := evSs_nil
@[simp] theorem w_cons : evSs cf wf io (.cons q z) fr = bd (evS cf wf io q fr) (thenO cf wf io z) ⟨⟩ := evSs_cons
@[simp] theorem w_pass : evS cf wf io .pass fr = .ok (fr, .nx) := evS_pass
@[simp] theorem w_brk : evS cf wf io .brk fr = .ok (fr, .brk) := evS_brk
@[simp] theorem w_cont : evS cf wf io .cont fr = .ok (fr, .ct) := evS_cont
@[simp] theorem w_retN : evS cf wf io .retN fr = .ok (fr, .rt (.val .none)) := evS_retN
@[simp] theorem w_raise {c : Str} : evS cf wf io (.raise c) fr = .raise c := evS_raise
@[simp] theorem w_ret : evS cf wf io (.ret r) fr = retOf io (isVar r) fr (evE cf io r fr) := evS_ret
@[simp] theorem w_expr : evS cf wf io (.expr r) fr = bd (evE cf io r fr) (fun p => .ok (p.1, .nx)) ⟨⟩ := evS_expr
@[simp] theorem w_asg {tg : T} : evS cf wf io (.asg tg r) fr = bd (evE cf io r fr) (fun p => bd (asgT io p.1 tg p.2) (fun g => .ok (g, .nx)) ⟨⟩) ⟨⟩ := evS_asg
@[simp] theorem w_par {is : List Nat} : evS cf wf io (.par is rs) fr = bd (evL cf io false rs fr) (fun p => om (svs p.2) (fun ss => bd (putAll io p.1 is ss) (fun g => .ok (g, .nx)) ⟨⟩) ⟨⟩) ⟨⟩ := evS_par
@[simp] theorem w_ife : evS cf wf io (.ife r z1 z2) fr = bd (evE cf io r fr) (fun p => bd (toB p.2) (fun t => ifR t (fun _ => evSs cf wf io z1 p.1) (fun _ => evSs cf wf io z2 p.1) ⟨⟩ ⟨⟩) ⟨⟩) ⟨⟩ := by rw [evS]; first | done | rfl
/-- a store into a list that a slot holds -/
def setL (fr : Fr) (i : Nat) (y : D) : Option SV → List D → Res (Fr × Out)
  | some (.own (.list xs)), [.int j] => om (ixP xs.length j) (fun n => .ok (fr.set i (some (.own (.list (xs.set n y)))), .nx)) ⟨⟩
  | _, _ => .stuck
@[simp] theorem setL_eq {i : Nat} {y : D} {xs : List D} {j : Int} : setL fr i y (some (.own (.list xs))) [.int j] = om (ixP xs.length j) (fun n => .ok (fr.set i (some (.own (.list (xs.set n y)))), .nx)) ⟨⟩ := rfl
def setK (cf : CF) (io : Bool) (k : E) (i : Nat) (f : Fr) (y : D) : Option SV → Res (Fr × Out)
  | some (.own (.list _)) => bd (evL cf io true (.cons k .nil) f) (fun p => om (conts p.1 p.2) (fun ks => setL p.1 i y (getS p.1 i) ks) ⟨⟩) ⟨⟩
  | _ => .stuck
@[simp] theorem setK_eq {k : E} {i : Nat} {y : D} {xs : List D} : setK cf io k i fr y (some (.own (.list xs))) = bd (evL cf io true (.cons k .nil) fr) (fun p => om (conts p.1 p.2) (fun ks => setL p.1 i y (getS p.1 i) ks) ⟨⟩) ⟨⟩ := rfl
@[simp] theorem w_setI {i : Nat} {k e : E} : evS cf wf io (.setI i k e) fr = bd (evE cf io e fr) (fun p => om (frz p.2) (fun y => setK cf io k i p.1 y (getS p.1 i)) ⟨⟩) ⟨⟩ := by
  rw [evS_setI]
  unfold bd
  congr 1
  funext p
  obtain ⟨f, s⟩ := p
  unfold om
  dsimp only
  congr 1
  funext y
  generalize getS f i = o
  cases o with
  | none => rfl
  | some t =>
    cases t with
    | val d => rfl
    | own d =>
      cases d with
      | list xs =>
        rw [setK_eq]
        dsimp only
        unfold bd
        congr 1
        funext q
        obtain ⟨g, as⟩ := q
        unfold om
        dsimp only
        congr 1
        funext ks
        generalize getS g i = o2
        cases o2 with
        | none => rfl
        | some t2 =>
          cases t2 with
          | val d => rfl
          | own d =>
            cases d with
            | list xs2 =>
              rcases ks with _ | ⟨k1, _ | ⟨k2, kr⟩⟩
              · rfl
              · cases k1 with
                | int j =>
                  rw [setL_eq]
                  dsimp only
                  unfold om
                  cases ixP xs2.length j <;> rfl
                | _ => rfl
              · cases k1 <;> rfl
            | _ => rfl
      | _ => rfl
def appL (fr : Fr) (i : Nat) (y : D) : Option SV → Res (Fr × Out)
  | some (.own (.list xs)) => if xs.length < 16777216 then .ok (fr.set i (some (.own (.list (xs ++ [y])))), .nx) else .stuck
  | _ => .stuck
@[simp] theorem appL_eq {i : Nat} {y : D} {xs : List D} (h : xs.length < 16777216) : appL fr i y (some (.own (.list xs))) = .ok (fr.set i (some (.own (.list (xs ++ [y])))), .nx) := if_pos h
def appK (cf : CF) (io : Bool) (e : E) (i : Nat) (f : Fr) : Option SV → Res (Fr × Out)
  | some (.own (.list _)) => bd (evE cf io e f) (fun p => om (frz p.2) (fun y => appL p.1 i y (getS p.1 i)) ⟨⟩) ⟨⟩
  | _ => .stuck
@[simp] theorem appK_eq {e : E} {i : Nat} {xs : List D} : appK cf io e i fr (some (.own (.list xs))) = bd (evE cf io e fr) (fun p => om (frz p.2) (fun y => appL p.1 i y (getS p.1 i)) ⟨⟩) ⟨⟩ := rfl
@[simp] theorem w_app {i : Nat} {e : E} : evS cf wf io (.app i e) fr = appK cf io e i fr (getS fr i) := by
  rw [evS_app]
  generalize getS fr i = o
  cases o with
  | none => rfl
  | some t =>
    cases t with
    | val d => rfl
    | own d => cases d <;> rfl
@[simp] theorem w_for {tg : T} {it : I} : evS cf wf io (.for_ tg it z) fr = bd (evI cf io it fr) (fun p => forLoop (fun g d => Res.bind (asgT io g tg (.val d)) fun g1 => evSs cf wf io z g1) p.2 p.1) ⟨⟩ := evS_for
@[simp] theorem w_var {i : Nat} : evE cf io (.var i) fr = rd io fr i := evE_var
@[simp] theorem w_cst {d : D} : evE cf io (.cst d) fr = .ok (fr, .val d) := evE_cst
@[simp] theorem w_op {o : Op} : evE cf io (.op o rs) fr = bd (evL cf io true rs fr) (fun p => om (conts p.1 p.2) (fun ds => om (opSem o ds) (fun s => .ok (p.1, s)) ⟨⟩) ⟨⟩) ⟨⟩ := evE_op
def okT (f : Fr) (ds : List D) : Res (Fr × SV) := if okLen ds.length then .ok (f, .val (.tuple ds)) else .stuck
def okLs (f : Fr) (ds : List D) : Res (Fr × SV) := if okLen ds.length then .ok (f, own ds) else .stuck
@[simp] theorem w_tup : evE cf io (.tup rs) fr = bd (evL cf io false rs fr) (fun p => om (frzs p.2) (fun ds => okT p.1 ds) ⟨⟩) ⟨⟩ := evE_tup
@[simp] theorem w_lst : evE cf io (.lst rs) fr = bd (evL cf io false rs fr) (fun p => om (frzs p.2) (fun ds => okLs p.1 ds) ⟨⟩) ⟨⟩ := evE_lst
@[simp] theorem w_and : evE cf io (.and r1 r2) fr = bd (evE cf io r1 fr) (fun p => bd (toB p.2) (fun t => ifR t (fun _ => evE cf io r2 p.1) (fun _ => .ok (p.1, .val (.bool false))) ⟨⟩ ⟨⟩) ⟨⟩) ⟨⟩ := evE_and
@[simp] theorem w_or : evE cf io (.or r1 r2) fr = bd (evE cf io r1 fr) (fun p => bd (toB p.2) (fun t => ifR t (fun _ => .ok (p.1, .val (.bool true))) (fun _ => evE cf io r2 p.1) ⟨⟩ ⟨⟩) ⟨⟩) ⟨⟩ := evE_or
@[simp] theorem w_not : evE cf io (.not r1) fr = bd (evE cf io r1 fr) (fun p => bd (toB p.2) (fun t => .ok (p.1, .val (.bool (!t)))) ⟨⟩) ⟨⟩ := evE_not
@[simp] theorem w_ifx : evE cf io (.ife r1 r2 r3) fr = bd (evE cf io r1 fr) (fun p => bd (toB p.2) (fun t => ifR t (fun _ => evE cf io r2 p.1) (fun _ => evE cf io r3 p.1) ⟨⟩ ⟨⟩) ⟨⟩) ⟨⟩ := evE_ife
@[simp] theorem w_chain {o1 o2 : CmpOp} {ab c : Es} : evE cf io (.chain o1 o2 ab c) fr = bd (evL cf io true ab fr) (fun p => om (conts p.1 p.2) (fun ds => om (cmpS o1 ds) (fun s => bd (toB s) (fun t =>
      ifR t (fun _ => bd (evL cf io true c p.1) (fun q => om (conts q.1 (p.2.drop 1 ++ q.2)) (fun ds2 => om (cmpS o2 ds2) (fun s2 => .ok (q.1, s2)) ⟨⟩) ⟨⟩) ⟨⟩)
      (fun _ => .ok (p.1, .val (.bool false))) ⟨⟩ ⟨⟩) ⟨⟩) ⟨⟩) ⟨⟩) ⟨⟩ := evE_chain
@[simp] theorem w_call {k : Nat} : evE cf io (.call k rs) fr = bd (evL cf io false rs fr) (fun p => om (frzs p.2) (fun ds => bd (cf k (ds.map .val)) (fun q => .ok (p.1, q.1)) ⟨⟩) ⟨⟩) ⟨⟩ := evE_call
def ioR (f : Fr) (i : Nat) (q : SV × Option SV) : Res (Fr × SV) := match q.2 with
  | some (.own o') => .ok (f.set i (some (.own o')), q.1)
  | _ => .stuck
@[simp] theorem ioR_eq {i : Nat} {o : D} {s : SV} : ioR fr i (s, some (.own o)) = .ok (fr.set i (some (.own o)), s) := rfl
def ioC (cf : CF) (k i : Nat) (f : Fr) (ds : List D) : Option SV → Res (Fr × SV)
  | some (.own o) => bd (calm (cf k (.own o :: ds.map .val))) (fun q => ioR f i q) ⟨⟩
  | _ => .stuck
@[simp] theorem ioC_eq {k i : Nat} {ds : List D} {o : D} : ioC cf k i fr ds (some (.own o)) = bd (calm (cf k (.own o :: ds.map .val))) (fun q => ioR fr i q) ⟨⟩ := rfl
def ioK (cf : CF) (io : Bool) (k i : Nat) (rs : Es) (f : Fr) : Option SV → Res (Fr × SV)
  | some (.own _) => bd (evL cf io false rs f) (fun p => om (frzs p.2) (fun ds => ioC cf k i p.1 ds (getS p.1 i)) ⟨⟩) ⟨⟩
  | _ => .stuck
@[simp] theorem ioK_eq {k i : Nat} {o : D} : ioK cf io k i rs fr (some (.own o)) = bd (evL cf io false rs fr) (fun p => om (frzs p.2) (fun ds => ioC cf k i p.1 ds (getS p.1 i)) ⟨⟩) ⟨⟩ := rfl
@[simp] theorem w_callio {k i : Nat} : evE cf io (.callio k i rs) fr = ioK cf io k i rs fr (getS fr i) := by
  rw [evE_callio]
  generalize getS fr i = o
  cases o with
  | none => rfl
  | some t => cases t <;> rfl
def errR (tab : List (Str × Str)) (els : Str) (f : Fr) : Res (Fr × SV) → Res (Fr × SV)
  | .ok _ => .ok (f, .val (.str els))
  | .raise c => (match tab.lookup c with | some o => .ok (f, .val (.str o)) | none => .stuck)
  | .stuck => .stuck
@[simp] theorem errR_ok {tab : List (Str × Str)} {els : Str} {p : Fr × SV} : errR tab els fr (.ok p) = .ok (fr, .val (.str els)) := rfl
@[simp] theorem errR_raise {tab : List (Str × Str)} {els c : Str} : errR tab els fr (.raise c) = (match tab.lookup c with | some o => .ok (fr, .val (.str o)) | none => .stuck) := rfl
@[simp] theorem w_err {tab : List (Str × Str)} {els : Str} {pre : List Nat} : evE cf io (.err tab els pre r) fr = om (preF io fr pre) (fun f1 => errR tab els f1 (evE cf io r (blind f1))) ⟨⟩ := evE_err
@[simp] theorem w_lnil {b : Bool} : evL cf io b .nil fr = .ok (fr, []) := evL_nil
@[simp] theorem w_lcons {b : Bool} : evL cf io b (.cons r rs) fr = bd (evO cf io b r fr) (fun p => bd (evL cf io b rs p.1) (fun q => .ok (q.1, p.2 :: q.2)) ⟨⟩) ⟨⟩ := evL_cons
def asBor (fr : Fr) (i : Nat) : Option SV → Res (Fr × AV)
  | some _ => .ok (fr, AV.bor i)
  | none => .stuck
@[simp] theorem asBor_s {i : Nat} {s : SV} : asBor fr i (some s) = .ok (fr, .bor i) := rfl
@[simp] theorem w_ovar {i : Nat} : evO cf io true (.var i) fr = asBor fr i (getS fr i) := by first | rfl | (unfold evO opOf asBor; dsimp only [isVar]; done) | (unfold evO opOf asBor; dsimp only [isVar]; cases getS fr i <;> rfl)
def asSv (p : Fr × SV) : Res (Fr × AV) := .ok (p.1, AV.sv p.2)
@[simp] theorem asSv_eq {s : SV} : asSv (fr, s) = .ok (fr, .sv s) := rfl
@[simp] theorem w_oval : evO cf io false r fr = bd (evE cf io r fr) asSv ⟨⟩ := rfl
@[simp] theorem w_ocst {d : D} : evO cf io true (.cst d) fr = .ok (fr, AV.sv (.val d)) := by unfold evO; rw [evE_cst]; first | done | rfl
@[simp] theorem w_oop {o : Op} : evO cf io true (.op o rs) fr = bd (evE cf io (.op o rs) fr) asSv ⟨⟩ := rfl
@[simp] theorem w_otup : evO cf io true (.tup rs) fr = bd (evE cf io (.tup rs) fr) asSv ⟨⟩ := rfl
@[simp] theorem w_olst : evO cf io true (.lst rs) fr = bd (evE cf io (.lst rs) fr) asSv ⟨⟩ := rfl
@[simp] theorem w_oand : evO cf io true (.and r1 r2) fr = bd (evE cf io (.and r1 r2) fr) asSv ⟨⟩ := rfl
@[simp] theorem w_oor : evO cf io true (.or r1 r2) fr = bd (evE cf io (.or r1 r2) fr) asSv ⟨⟩ := rfl
@[simp] theorem w_onot : evO cf io true (.not r1) fr = bd (evE cf io (.not r1) fr) asSv ⟨⟩ := rfl
@[simp] theorem w_oife : evO cf io true (.ife r1 r2 r3) fr = bd (evE cf io (.ife r1 r2 r3) fr) asSv ⟨⟩ := rfl
@[simp] theorem w_ochain {o1 o2 : CmpOp} {ab c : Es} : evO cf io true (.chain o1 o2 ab c) fr = bd (evE cf io (.chain o1 o2 ab c) fr) asSv ⟨⟩ := rfl
@[simp] theorem w_ocall {k : Nat} : evO cf io true (.call k rs) fr = bd (evE cf io (.call k rs) fr) asSv ⟨⟩ := rfl
@[simp] theorem w_ocallio {k i : Nat} : evO cf io true (.callio k i rs) fr = bd (evE cf io (.callio k i rs) fr) asSv ⟨⟩ := rfl
@[simp] theorem w_oerr {tab : List (Str × Str)} {els : Str} {pre : List Nat} : evO cf io true (.err tab els pre r) fr = bd (evE cf io (.err tab els pre r) fr) asSv ⟨⟩ := rfl
@[simp] theorem w_olc {t : T} {it : I} {vs : List Nat} : evO cf io true (.lc r t it rs vs) fr = bd (evE cf io (.lc r t it rs vs) fr) asSv ⟨⟩ := rfl
@[simp] theorem w_iof : evI cf io (.ofE r) fr = bd (evE cf io r fr) (fun p => om (frz p.2) (fun d => om (seqP d) (fun xs => .ok (p.1, xs)) ⟨⟩) ⟨⟩) ⟨⟩ := evI_ofE
@[simp] theorem w_ivia {k : IK} : evI cf io (.via k rs) fr = bd (evL cf io false rs fr) (fun p => om (frzs p.2) (fun ds => om (mkIt k ds) (fun xs => .ok (p.1, xs)) ⟨⟩) ⟨⟩) ⟨⟩ := evI_via
@[simp] theorem w_tsnil : evTs cf io .nil fr = .ok (fr, true) := evTs_nil
@[simp] theorem w_tsone : evTs cf io (.cons r .nil) fr = bd (evE cf io r fr) (fun p => bd (toB p.2) (fun t => .ok (p.1, t)) ⟨⟩) ⟨⟩ := by rw [evTs]; first | done | rfl
end
@[simp] theorem w_okT {f : Fr} {ds : List D} (h : ds.length ≤ 16777216) : okT f ds = .ok (f, .val (.tuple ds)) := if_pos (decide_eq_true h)
@[simp] theorem w_okL {f : Fr} {ds : List D} (h : ds.length ≤ 16777216) : okLs f ds = .ok (f, .own (.list ds)) := if_pos (decide_eq_true h)
/-! frames, operands -/
@[simp] theorem w_isv1 {i : Nat} : isVar (.var i) = some i := rfl
@[simp] theorem w_isv2 {d : D} : isVar (.cst d) = none := rfl
@[simp] theorem w_isv3 {o : Op} {es : Es} : isVar (.op o es) = none := rfl
@[simp] theorem w_isv4 {es : Es} : isVar (.tup es) = none := rfl
@[simp] theorem w_isv5 {es : Es} : isVar (.lst es) = none := rfl
@[simp] theorem w_isv6 {a b : E} : isVar (.and a b) = none := rfl
@[simp] theorem w_isv7 {a b : E} : isVar (.or a b) = none := rfl
@[simp] theorem w_isv8 {a : E} : isVar (.not a) = none := rfl
@[simp] theorem w_isv9 {a b c : E} : isVar (.ife a b c) = none := rfl
@[simp] theorem w_isv10 {o p : CmpOp} {a b : Es} : isVar (.chain o p a b) = none := rfl
@[simp] theorem w_isv11 {k : Nat} {es : Es} : isVar (.call k es) = none := rfl
@[simp] theorem w_isv12 {k i : Nat} {es : Es} : isVar (.callio k i es) = none := rfl
@[simp] theorem w_isv13 {a c : List (Str × Str)} {b : Str} {p : List Nat} {e : E} : isVar (.err a b p e) = none := rfl
@[simp] theorem w_isv14 {r : E} {t : T} {it : I} {rs : Es} {vs : List Nat} : isVar (.lc r t it rs vs) = none := rfl
def asRt (p : Fr × SV) : Res (Fr × Out) := .ok (p.1, .rt p.2)
@[simp] theorem asRt_eq {fr : Fr} {s : SV} : asRt (fr, s) = .ok (fr, .rt s) := rfl
@[simp] theorem w_retN' {io : Bool} {fr : Fr} {x : Res (Fr × SV)} : retOf io none fr x = bd x asRt ⟨⟩ := rfl
@[simp] theorem w_retS {io : Bool} {i : Nat} {fr : Fr} {x : Res (Fr × SV)} : retOf io (some i) fr x = (match getS fr i with
        | some (.own o) => if io && i == 0 then .stuck else .ok (fr.set i none, .rt (.own o))
        | some (.val d) => .ok (fr, .rt (.val d))
        | none => .stuck) := rfl
@[simp] theorem w_gets0 {o : Option SV} {fr : Fr} : getS (o :: fr) 0 = o := by cases o <;> rfl
@[simp] theorem w_getsS {o : Option SV} {fr : Fr} {n : Nat} : getS (o :: fr) (n + 1) = getS fr n := rfl
@[simp] theorem w_getsnil {n : Nat} : getS [] n = none := rfl
@[simp] theorem w_rd {io : Bool} {fr : Fr} {i : Nat} : rd io fr i = (match getS fr i with
  | some (.val d) => .ok (fr, .val d)
  | some (.own (.list xs)) => if io && i == 0 then .stuck else .ok (fr.set i (some (.val (.list xs))), .val (.list xs))
  | _ => .stuck) := rfl
@[simp] theorem w_put1 {io : Bool} {fr : Fr} {i : Nat} {s : SV} : put1 io fr i s = if (io && i == 0) || fr.length ≤ i then .stuck else .ok (fr.set i (some s)) := rfl
@[simp] theorem w_asg1 {io : Bool} {fr : Fr} {i : Nat} {s : SV} : asgT io fr (.nm i) s = put1 io fr i s := rfl
@[simp] theorem w_asg2 {io : Bool} {fr : Fr} {is : List Nat} {ds : List D} : asgT io fr (.tp is) (.val (.tuple ds)) = putAll io fr is (ds.map .val) := rfl
@[simp] theorem w_pall0 {io : Bool} {fr : Fr} : putAll io fr [] [] = .ok fr := rfl
@[simp] theorem w_pall1 {io : Bool} {fr : Fr} {i : Nat} {is : List Nat} {s : SV} {ss : List SV} : putAll io fr (i :: is) (s :: ss) = bd (put1 io fr i s) (fun f => putAll io f is ss) ⟨⟩ := rfl
@[simp] theorem w_conts0 {fr : Fr} : conts fr [] = some [] := rfl
@[simp] theorem w_conts1 {fr : Fr} {a : AV} {as : List AV} : conts fr (a :: as) = (cont fr a).bind fun d => (conts fr as).map (d :: ·) := rfl
@[simp] theorem w_cont1 {fr : Fr} {d : D} : cont fr (.sv (.val d)) = some d := rfl
@[simp] theorem w_cont2 {fr : Fr} {d : D} : cont fr (.sv (.own d)) = some d := rfl
@[simp] theorem w_cont3 {fr : Fr} {i : Nat} : cont fr (.bor i) = (getS fr i).map SV.con := rfl
@[simp] theorem w_con1 {d : D} : SV.con (.val d) = d := rfl
@[simp] theorem w_con2 {d : D} : SV.con (.own d) = d := rfl
@[simp] theorem w_frz1 {d : D} : frz (.val d) = some d := rfl
@[simp] theorem w_frz2 {xs : List D} : frz (.own (.list xs)) = some (.list xs) := rfl
@[simp] theorem w_frzs0 : frzs [] = some [] := rfl
@[simp] theorem w_frzs1 {s : SV} {r : List AV} : frzs (.sv s :: r) = (frz s).bind fun d => (frzs r).map (d :: ·) := rfl
@[simp] theorem w_svs0 : svs [] = some [] := rfl
@[simp] theorem w_svs1 {s : SV} {r : List AV} : svs (.sv s :: r) = (svs r).map (s :: ·) := rfl
@[simp] theorem w_toB {b : Bool} : toB (.val (.bool b)) = .ok b := rfl
@[simp] theorem w_vB {b : Bool} : vB b = .val (.bool b) := rfl
@[simp] theorem w_vI {i : Int} : vI i = .val (.int i) := rfl
@[simp] theorem w_own {xs : List D} : own xs = .own (.list xs) := rfl
@[simp] theorem w_calm {α : Type} {a : α} : calm (.ok a) = .ok a := rfl
@[simp] theorem w_outrt {v : SV} : outV (.rt v) = .ok v := rfl
@[simp] theorem w_outnx : outV .nx = .ok (.val .none) := rfl
@[simp] theorem w_okLen {n : Nat} : okLen n = decide (n ≤ 16777216) := rfl
@[simp] theorem w_line : line = 16777216 := rfl
/-! operations -/
@[simp] theorem w_o1 : opSem .add = addS := rfl
@[simp] theorem w_o2 : opSem .sub = subS := rfl
@[simp] theorem w_o3 : opSem .mul = mulS := rfl
@[simp] theorem w_o4 : opSem .fdiv = fdivS := rfl
@[simp] theorem w_o5 : opSem .mod = modS := rfl
@[simp] theorem w_o6 : opSem .pow = powS := rfl
@[simp] theorem w_o7 : opSem .neg = negS := rfl
@[simp] theorem w_o8 {o : CmpOp} : opSem (.cmp o) = cmpS o := rfl
@[simp] theorem w_o9 {d : Option Bool} {p : Bool} : opSem (.isC d p) = isCS d p := rfl
@[simp] theorem w_o10 : opSem .idx = idxS := rfl
@[simp] theorem w_o11 {l h : Bool} : opSem (.slice l h) = sliceS l h := rfl
@[simp] theorem w_o12 : opSem .len = lenS := rfl
@[simp] theorem w_o13 : opSem .tupleOf = tupleS := rfl
@[simp] theorem w_o14 : opSem .listOf = listS := rfl
@[simp] theorem w_o15 : opSem .absOf = absS := rfl
@[simp] theorem w_o16 : opSem .intOf = intS := rfl
@[simp] theorem w_o17 {t : Ty} : opSem (.isinst t) = isinstS t := rfl
@[simp] theorem w_add {i j : Int} : addS [.int i, .int j] = some (.val (.int (i + j))) := rfl
@[simp] theorem w_addl {xs ys : List D} : addS [.list xs, .list ys] = if okLen (xs.length + ys.length) then some (.own (.list (xs ++ ys))) else none := rfl
@[simp] theorem w_addt {xs ys : List D} : addS [.tuple xs, .tuple ys] = if okLen (xs.length + ys.length) then some (.val (.tuple (xs ++ ys))) else none := rfl
@[simp] theorem w_sub {i j : Int} : subS [.int i, .int j] = some (.val (.int (i - j))) := rfl
@[simp] theorem w_mul {i j : Int} : mulS [.int i, .int j] = if mulOk i j then some (.val (.int (i * j))) else none := rfl
@[simp] theorem w_fdiv {i j : Int} : fdivS [.int i, .int j] = if 0 < j ∧ j < 1073741824 then some (.val (.int (i / j))) else none := rfl
@[simp] theorem w_mod {i j : Int} : modS [.int i, .int j] = if 0 < j then some (.val (.int (i % j))) else none := rfl
@[simp] theorem w_pow {i j : Int} : powS [.int i, .int j] = if 0 ≤ j ∧ j ≤ 1000 ∧ i.natAbs < 2 ^ 64 then some (.val (.int (i ^ j.toNat))) else none := rfl
@[simp] theorem w_neg {i : Int} : negS [.int i] = some (.val (.int (-i))) := rfl
@[simp] theorem w_abs {i : Int} : absS [.int i] = some (.val (.int (if i < 0 then -i else i))) := rfl
@[simp] theorem w_int {i : Int} : intS [.int i] = some (.val (.int i)) := rfl
@[simp] theorem w_lenl {xs : List D} : lenS [.list xs] = some (.val (.int xs.length)) := rfl
@[simp] theorem w_lent {xs : List D} : lenS [.tuple xs] = some (.val (.int xs.length)) := rfl
@[simp] theorem w_lst1 {xs : List D} : listS [.list xs] = some (.own (.list xs)) := rfl
@[simp] theorem w_lst2 {xs : List D} : listS [.tuple xs] = some (.own (.list xs)) := rfl
@[simp] theorem w_tup1 {xs : List D} : tupleS [.list xs] = some (.val (.tuple xs)) := rfl
@[simp] theorem w_tup2 {xs : List D} : tupleS [.tuple xs] = some (.val (.tuple xs)) := rfl
@[simp] theorem w_cmps {o : CmpOp} {a b : D} : cmpS o [a, b] = (cmpP o a b).map vB := rfl
theorem shal_int {n : Nat} {i : Int} : shal n (.int i) = true := by cases n <;> rfl
theorem eq_i {i j : Int} : eqP (.int i) (.int j) = some (decide (i = j)) := by
  unfold eqP
  rw [shal_int, shal_int]
  rfl
theorem lt_i {i j : Int} : ltP (.int i) (.int j) = some (decide (i < j)) := by
  unfold ltP ordB
  rw [shal_int, PySem.W.dataLt_int]
  rfl
theorem gt_i {i j : Int} : gtP (.int i) (.int j) = some (decide (j < i)) := by
  unfold gtP ordB
  rw [shal_int, PySem.W.dataLt_int]
  rfl
@[simp] theorem w_eqi {i j : Int} : cmpP .Eq (.int i) (.int j) = some (decide (i = j)) := by
  unfold cmpP; exact eq_i
@[simp] theorem w_nei {i j : Int} : cmpP .NotEq (.int i) (.int j) = some (!decide (i = j)) := by
  unfold cmpP; dsimp only; rw [eq_i]; rfl
@[simp] theorem w_lti {i j : Int} : cmpP .Lt (.int i) (.int j) = some (decide (i < j)) := by
  unfold cmpP; exact lt_i
@[simp] theorem w_gti {i j : Int} : cmpP .Gt (.int i) (.int j) = some (decide (j < i)) := by
  unfold cmpP; exact gt_i
theorem not_dec {p q : Prop} [Decidable p] [Decidable q] (h : q ↔ ¬p) : (some (decide p)).map (fun b => !b) = some (decide q) := by
  simp only [Option.map_some]
  congr 1
  rw [Bool.eq_iff_iff]; simp [h]
@[simp] theorem w_lei {i j : Int} : cmpP .LtE (.int i) (.int j) = some (decide (i ≤ j)) := by
  unfold cmpP; dsimp only; rw [gt_i]; exact not_dec (by omega)
@[simp] theorem w_gei {i j : Int} : cmpP .GtE (.int i) (.int j) = some (decide (j ≤ i)) := by
  unfold cmpP; dsimp only; rw [lt_i]; exact not_dec (by omega)
@[simp] theorem w_idxl {xs : List D} {i : Int} : idxS [.list xs, .int i] = ((ixP xs.length i).bind fun j => xs[j]?).map .val := rfl
@[simp] theorem w_idxt {xs : List D} {i : Int} : idxS [.tuple xs, .int i] = ((ixP xs.length i).bind fun j => xs[j]?).map .val := rfl
@[simp] theorem w_ix {n : Nat} {i : Int} : ixP n i = if 0 ≤ i then if i < n then some i.toNat else none else if -(n : Int) ≤ i then some (i + n).toNat else none := rfl
theorem mul_okr {i j : Int} (h : -(2 ^ 64) < j ∧ j < 2 ^ 64) : mulOk i j = true := decide_eq_true (.inr h)
theorem mul_okl {i j : Int} (h : -(2 ^ 64) < i ∧ i < 2 ^ 64) : mulOk i j = true := decide_eq_true (.inl h)
@[simp] theorem w_mix1 {a c : CF} {j : Nat} {args : List SV} (h : j < 100000) : mixC a c j args = a j args := if_pos h
@[simp] theorem w_mix2 {a c : CF} {j : Nat} {args : List SV} (h : 100000 ≤ j) : mixC a c j args = c (j - 100000) args := if_neg (by unfold lamOff; omega)

/-! comprehensions whose turns change nothing -/
theorem lcLoop_pure {step : Fr → D → Res (Fr × Option D)} {f0 : Fr} {o : D → Option D} : ∀ {xs acc : List D}, (∀ d ∈ xs, step f0 d = .ok (f0, o d)) → lcLoop step xs f0 acc = .ok (f0, acc ++ xs.filterMap o)
  | [], acc, _ => by simp [lcLoop]
  | d :: ds, acc, h => by
    rw [lcLoop, h d List.mem_cons_self, Res.bind_ok]
    dsimp only
    rw [lcLoop_pure fun e he => h e (List.mem_cons_of_mem _ he)]
    cases e : o d <;> simp [List.filterMap_cons, e]
theorem backF_self : ∀ {vs : List Nat} {f f0 : Fr}, wipeF f vs = some f0 → backF f0 f vs = f := by
  intro vs f f0 h
  have len : ∀ {vs : List Nat} {f0 : Fr}, wipeF f vs = some f0 → f0.length = f.length := by
    intro vs
    induction vs with
    | nil => intro f0 h; simp [wipeF] at h; subst h; rfl
    | cons v vs ih =>
      intro f0 h
      obtain ⟨g, e1, _, rfl⟩ := wipeF_cons h
      rw [List.length_set, ih e1]
  have out : ∀ {vs : List Nat} {f0 : Fr} {j : Nat}, wipeF f vs = some f0 → j ∉ vs → f0[j]? = f[j]? := by
    intro vs
    induction vs with
    | nil => intro f0 j h _; simp [wipeF] at h; subst h; rfl
    | cons v vs ih =>
      intro f0 j h hj
      obtain ⟨g, e1, _, rfl⟩ := wipeF_cons h
      rw [List.mem_cons, not_or] at hj
      rw [List.getElem?_set_ne (Ne.symm hj.1), ih e1 hj.2]
  have key : ∀ (vs : List Nat) (g : Fr) (j : Nat), g.length = f.length → (backF g f vs)[j]? = if j ∈ vs then f[j]? else g[j]? := by
    intro vs
    induction vs with
    | nil => intro g j _; simp [backF]
    | cons v vs ih =>
      intro g j hg
      rw [backF]
      by_cases hv : v = j
      · subst hv
        rw [if_pos List.mem_cons_self]
        by_cases hl : v < f.length
        · rw [List.getElem?_set_self (by rw [backF_len, hg]; exact hl)]
          unfold getS
          rw [List.getElem?_eq_getElem hl]; rfl
        · rw [List.getElem?_eq_none (by rw [List.length_set, backF_len, hg]; omega), List.getElem?_eq_none (by omega)]
      · rw [List.getElem?_set_ne hv, ih g j hg]
        by_cases hm : j ∈ vs
        · rw [if_pos hm, if_pos (List.mem_cons_of_mem _ hm)]
        · rw [if_neg hm, if_neg (fun z => (List.mem_cons.mp z).elim (fun w => hv w.symm) hm)]
  apply List.ext_getElem?
  intro j
  rw [key vs f0 j (len h)]
  by_cases hm : j ∈ vs
  · rw [if_pos hm]
  · rw [if_neg hm, out h hm]
theorem lc_pure {cf : CF} {io : Bool} {elt : E} {tg : T} {it : I} {ifs : Es} {vs : List Nat} {fr f f0 : Fr} {xs : List D} {o : D → Option D} (h1 : evI cf io it fr = .ok (f, xs)) (h2 : wipeF f vs = some f0) (h3 : xs.length ≤ 16777216) (h4 : ∀ d ∈ xs, lcStep cf io elt tg ifs vs f0 d = .ok (f0, o d)) :
    evE cf io (.lc elt tg it ifs vs) fr = .ok (f, .own (.list (xs.filterMap o))) := by
  rw [evE_lc, h1, Res.bind_ok]
  dsimp only
  rw [h2, Res.ofOpt_some, Res.bind_ok, if_pos (show okLen xs.length = true from decide_eq_true h3), lcLoop_pure h4]
  show Res.ok (backF f0 f vs, _) = _
  rw [backF_self h2, List.nil_append]
  rfl
/-- a loop by its invariant -/
theorem for_inv {step : Fr → D → Res (Fr × Out)} (P : Fr → Prop) : ∀ {xs : List D} {fr : Fr}, P fr → (∀ d ∈ xs, ∀ f, P f → ∃ g o, step f d = .ok (g, o) ∧ (o = .nx ∨ o = .ct) ∧ P g) → ∃ g, forLoop step xs fr = .ok (g, .nx) ∧ P g
  | [], fr, h, _ => ⟨fr, rfl, h⟩
  | d :: ds, fr, h, hs => by
    obtain ⟨g, o, e, ho, hg⟩ := hs d List.mem_cons_self fr h
    obtain ⟨g', e', hg'⟩ := for_inv P (xs := ds) hg fun d' hd' => hs d' (List.mem_cons_of_mem _ hd')
    refine ⟨g', ?_, hg'⟩
    rw [forLoop, e, Res.bind_ok]
    rcases ho with rfl | rfl <;> exact e'
/-! a call of a def -/
def finR (io : Bool) (f : Fr) (r : SV) : Res (SV × Option SV) := if io then (match getS f 0 with | some (.own o) => .ok (r, some (.own o)) | _ => .stuck) else .ok (r, none)
@[simp] theorem finR_f {f : Fr} {r : SV} : finR false f r = .ok (r, none) := rfl
@[simp] theorem finR_t {o : D} {fs : Fr} {r : SV} : finR true (some (.own o) :: fs) r = .ok (r, some (.own o)) := rfl
theorem call_row {prog : List FnIR} {wf k j : Nat} {args : List SV} {fn : FnIR} (hj : prog[j]? = some fn) (hl : fn.lam = false) (ha : args.length = fn.np) : callF prog wf (k + 1) j args =
    bd (evSs (mixC (callF prog wf k) (callL prog wf k).2.2) wf fn.io fn.body (args.map some ++ List.replicate (fn.ns - fn.np) none)) (fun p => bd (outV p.2) (fun r => finR fn.io p.1 r) ⟨⟩) ⟨⟩ := by
  rw [callF_succ, hj]
  dsimp only
  rw [hl, Bool.false_and, if_neg Bool.false_ne_true]
  unfold runF
  rw [if_pos ha]
  rfl
end PP

namespace KK
open PySem PySem.Spec PyProof.Rows PP
abbrev top (i : Nat) : Stmt := PySem.Challenge.pw_routeproof_k00_prefixes.main.body.getD i (.Pass ⟨0, 0, 0, 0⟩)
def b0 : Ss := (.cons (.asg (.nm 1) (.op .absOf (.cons (.op .idx (.cons (.op .add (.cons (.op .listOf (.cons (.var 0) .nil)) (.cons (.lst (.cons (.cst (.int 0)) .nil)) .nil))) (.cons (.cst (.int 0)) .nil))) .nil))) (.cons (.ret (.lst (.cons (.ife (.op (.cmp .GtE) (.cons (.var 1) (.cons (.op .pow (.cons (.cst (.int 10)) (.cons (.cst (.int 18)) .nil))) .nil))) (.op .fdiv (.cons (.var 1) (.cons (.cst (.int 79)) .nil))) (.cst (.int 0))) (.cons (.op .add (.cons (.op .mod (.cons (.op .intOf (.cons (.op .add (.cons (.op .mul (.cons (.var 1) (.cons (.cst (.int 293)) .nil))) (.cons (.cst (.int 2699)) .nil))) .nil)) (.cons (.cst (.int 2077503137)) .nil))) (.cons (.cst (.int 179)) .nil))) .nil)))) .nil))
def r0 : PRow := ⟨"_law_cup", ["script"], ["script", "cell"], [], none, ⟨1, 2, false, false, b0⟩, top 21⟩
def b1 : Ss := (.cons (.ret (.and (.op (.isinst .tuple) (.cons (.var 0) .nil)) (.chain .LtE .LtE (.cons (.var 1) (.cons (.op .len (.cons (.var 0) .nil)) .nil)) (.cons (.var 2) .nil)))) .nil)
def r1 : PRow := ⟨"is_tuple_of", ["value", "low", "high"], ["value", "low", "high"], [], none, ⟨3, 3, false, false, b1⟩, top 6⟩
def b2 : Ss := (.cons (.ret (.and (.op (.isinst .int) (.cons (.var 0) .nil)) (.and (.not (.op (.isinst .bool) (.cons (.var 0) .nil))) (.chain .LtE .LtE (.cons (.var 1) (.cons (.var 0) .nil)) (.cons (.var 2) .nil))))) .nil)
def r2 : PRow := ⟨"is_whole", ["value", "low", "high"], ["value", "low", "high"], [], none, ⟨3, 3, false, false, b2⟩, top 5⟩
def b3 : Ss := (.cons (.ife (.or (.not (.call 1 (.cons (.var 0) (.cons (.cst (.int 2)) (.cons (.cst (.int 2)) .nil))))) (.or (.not (.call 2 (.cons (.op .idx (.cons (.var 0) (.cons (.cst (.int 0)) .nil))) (.cons (.cst (.int 0)) (.cons (.cst (.int 31)) .nil))))) (.not (.call 2 (.cons (.op .idx (.cons (.var 0) (.cons (.cst (.int 1)) .nil))) (.cons (.cst (.int 0)) (.cons (.cst (.int 5)) .nil))))))) (.cons (.ret (.cst (.bool false))) .nil) .nil) (.cons (.ret (.op (.cmp .Eq) (.cons (.op .mod (.cons (.op .idx (.cons (.var 0) (.cons (.cst (.int 0)) .nil))) (.cons (.op .idx (.cons (.cst (.tuple [(.int 32), (.int 16), (.int 8), (.int 4), (.int 2), (.int 1)])) (.cons (.op .idx (.cons (.var 0) (.cons (.cst (.int 1)) .nil))) .nil))) .nil))) (.cons (.cst (.int 0)) .nil)))) .nil))
def r3 : PRow := ⟨"fits_prefix", ["value"], ["value"], [("is_tuple_of", 1, 3, false), ("is_whole", 2, 3, false)], none, ⟨1, 1, false, false, b3⟩, top 11⟩
def b4 : Ss := (.cons (.ife (.not (.call 3 (.cons (.var 0) .nil))) (.cons (.raise "InvalidPrefix") .nil) .nil) .nil)
def r4 : PRow := ⟨"need_prefix", ["value"], ["value"], [("fits_prefix", 3, 1, false)], none, ⟨1, 1, false, false, b4⟩, top 14⟩
def b5 : Ss := (.cons (.ret (.op (.cmp .Eq) (.cons (.op .sub (.cons (.var 1) (.cons (.op .mod (.cons (.var 1) (.cons (.op .idx (.cons (.cst (.tuple [(.int 32), (.int 16), (.int 8), (.int 4), (.int 2), (.int 1)])) (.cons (.op .idx (.cons (.var 0) (.cons (.cst (.int 1)) .nil))) .nil))) .nil))) .nil))) (.cons (.op .idx (.cons (.var 0) (.cons (.cst (.int 0)) .nil))) .nil)))) .nil)
def r5 : PRow := ⟨"holds", ["prefix", "address"], ["prefix", "address"], [], none, ⟨2, 2, false, false, b5⟩, top 12⟩
def b6 : Ss := (.cons (.expr (.call 4 (.cons (.var 0) .nil))) (.cons (.ret (.lc (.var 1) (.nm 1) (.via .range (.cons (.op .add (.cons (.cst (.int 31)) (.cons (.cst (.int 1)) .nil))) .nil)) (.cons (.call 5 (.cons (.var 0) (.cons (.var 1) .nil))) .nil) [1])) .nil))
def r6 : PRow := ⟨"addresses_of", ["prefix"], ["prefix", "address"], [("need_prefix", 4, 1, false), ("holds", 5, 2, false)], none, ⟨1, 2, false, false, b6⟩, top 19⟩
def b7 : Ss := (.cons (.ife (.op (.cmp .Gt) (.cons (.op .idx (.cons (.var 0) (.cons (.cst (.int 0)) .nil))) (.cons (.cst (.int 0)) .nil))) (.cons (.asg (.nm 2) (.op .mod (.cons (.op .intOf (.cons (.op .idx (.cons (.var 0) (.cons (.cst (.int 0)) .nil))) .nil)) (.cons (.var 1) .nil)))) (.cons (.setI 0 (.cst (.int 0)) (.op .fdiv (.cons (.op .idx (.cons (.var 0) (.cons (.cst (.int 0)) .nil))) (.cons (.var 1) .nil)))) (.cons (.ret (.var 2)) .nil))) .nil) (.cons (.setI 0 (.cst (.int 1)) (.op .mod (.cons (.op .intOf (.cons (.op .add (.cons (.op .mul (.cons (.op .idx (.cons (.var 0) (.cons (.cst (.int 1)) .nil))) (.cons (.cst (.int 31079)) .nil))) (.cons (.cst (.int 8017)) .nil))) .nil)) (.cons (.cst (.int 2147483543)) .nil)))) (.cons (.asg (.nm 3) (.op .mod (.cons (.op .intOf (.cons (.op .mul (.cons (.op .idx (.cons (.var 0) (.cons (.cst (.int 1)) .nil))) (.cons (.op .add (.cons (.op .idx (.cons (.var 0) (.cons (.cst (.int 1)) .nil))) (.cons (.cst (.int 241)) .nil))) .nil))) .nil)) (.cons (.cst (.int 2147483587)) .nil)))) (.cons (.ret (.op .mod (.cons (.op .intOf (.cons (.op .fdiv (.cons (.var 3) (.cons (.cst (.int 829)) .nil))) .nil)) (.cons (.var 1) .nil)))) .nil))))
def r7 : PRow := ⟨"_law_roll", ["cup", "many"], ["cup", "many", "found", "deep"], [], none, ⟨2, 4, true, false, b7⟩, top 22⟩
def b8 : Ss := (.cons (.ret (.op .idx (.cons (.var 1) (.cons (.callio 7 0 (.cons (.op .len (.cons (.var 1) .nil)) .nil)) .nil)))) .nil)
def r8 : PRow := ⟨"_law_some", ["cup", "things"], ["cup", "things"], [("_law_roll", 7, 2, true)], none, ⟨2, 2, true, false, b8⟩, top 23⟩
def b9 : Ss := (.cons (.ret (.call 3 (.cons (.var 0) .nil))) .nil)
def r9 : PRow := ⟨"is_prefix", ["value"], ["value"], [("fits_prefix", 3, 1, false)], none, ⟨1, 1, false, false, b9⟩, top 16⟩
def b10 : Ss := (.cons (.ret (.lc (.op .sub (.cons (.op .fdiv (.cons (.var 0) (.cons (.var 1) .nil))) (.cons (.op .mul (.cons (.op .fdiv (.cons (.var 0) (.cons (.op .mul (.cons (.cst (.int 2)) (.cons (.var 1) .nil))) .nil))) (.cons (.cst (.int 2)) .nil))) .nil))) (.nm 1) (.ofE (.tup (.cons (.cst (.int 16)) (.cons (.cst (.int 8)) (.cons (.cst (.int 4)) (.cons (.cst (.int 2)) (.cons (.cst (.int 1)) .nil))))))) .nil [1])) .nil)
def r10 : PRow := ⟨"_law_bits", ["address"], ["address", "wide"], [], none, ⟨1, 2, false, false, b10⟩, top 37⟩
def b11 : Ss := (.cons (.ret (.and (.chain .LtE .Lt (.cons (.cst (.int 0)) (.cons (.op .idx (.cons (.var 0) (.cons (.cst (.int 0)) .nil))) .nil)) (.cons (.cst (.int 32)) .nil)) (.and (.chain .LtE .LtE (.cons (.cst (.int 0)) (.cons (.op .idx (.cons (.var 0) (.cons (.cst (.int 1)) .nil))) .nil)) (.cons (.cst (.int 5)) .nil)) (.op (.cmp .NotIn) (.cons (.cst (.int 1)) (.cons (.op (.slice true false) (.cons (.call 10 (.cons (.op .idx (.cons (.var 0) (.cons (.cst (.int 0)) .nil))) .nil)) (.cons (.op .idx (.cons (.var 0) (.cons (.cst (.int 1)) .nil))) .nil))) .nil)))))) .nil)
def r11 : PRow := ⟨"_law_is", ["value"], ["value"], [("_law_bits", 10, 1, false)], none, ⟨1, 1, false, false, b11⟩, top 38⟩
def b12 : Ss := (.cons (.asg (.nm 1) (.callio 8 0 (.cons (.lst (.cons (.cst (.int 0)) (.cons (.cst (.int 1)) (.cons (.cst (.int 1)) (.cons (.cst (.int 2)) (.cons (.cst (.int 3)) (.cons (.cst (.int 5)) .nil))))))) .nil))) (.cons (.asg (.nm 2) (.op .idx (.cons (.lst (.cons (.cst (.int 32)) (.cons (.cst (.int 16)) (.cons (.cst (.int 8)) (.cons (.cst (.int 4)) (.cons (.cst (.int 2)) (.cons (.cst (.int 1)) .nil))))))) (.cons (.var 1) .nil)))) (.cons (.ret (.tup (.cons (.op .mul (.cons (.callio 7 0 (.cons (.op .fdiv (.cons (.cst (.int 32)) (.cons (.var 2) .nil))) .nil)) (.cons (.var 2) .nil))) (.cons (.var 1) .nil)))) .nil)))
def r12 : PRow := ⟨"_law_prefix", ["cup"], ["cup", "length", "wide"], [("_law_some", 8, 2, true), ("_law_roll", 7, 2, true)], none, ⟨1, 3, true, false, b12⟩, top 30⟩
def b13 : Ss := (.cons (.ret (.and (.op (.cmp .GtE) (.cons (.op .idx (.cons (.var 0) (.cons (.cst (.int 1)) .nil))) (.cons (.op .idx (.cons (.var 1) (.cons (.cst (.int 1)) .nil))) .nil))) (.call 5 (.cons (.var 1) (.cons (.op .idx (.cons (.var 0) (.cons (.cst (.int 0)) .nil))) .nil))))) .nil)
def r13 : PRow := ⟨"is_within", ["prefix", "other"], ["prefix", "other"], [("holds", 5, 2, false)], none, ⟨2, 2, false, false, b13⟩, top 13⟩
def b14 : Ss := (.cons (.expr (.call 4 (.cons (.var 0) .nil))) (.cons (.expr (.call 4 (.cons (.var 1) .nil))) (.cons (.ret (.call 13 (.cons (.var 0) (.cons (.var 1) .nil)))) .nil)))
def r14 : PRow := ⟨"is_inside", ["prefix", "other"], ["prefix", "other"], [("need_prefix", 4, 1, false), ("is_within", 13, 2, false)], none, ⟨2, 2, false, false, b14⟩, top 18⟩
def b15 : Ss := (.cons (.ife (.not (.call 2 (.cons (.var 0) (.cons (.var 1) (.cons (.var 2) .nil))))) (.cons (.raise "InvalidNumber") .nil) .nil) .nil)
def r15 : PRow := ⟨"need_whole", ["value", "low", "high"], ["value", "low", "high"], [("is_whole", 2, 3, false)], none, ⟨3, 3, false, false, b15⟩, top 15⟩
def b16 : Ss := (.cons (.expr (.call 15 (.cons (.var 0) (.cons (.cst (.int 0)) (.cons (.cst (.int 31)) .nil))))) (.cons (.expr (.call 4 (.cons (.var 1) .nil))) (.cons (.ret (.call 5 (.cons (.var 1) (.cons (.var 0) .nil)))) .nil)))
def r16 : PRow := ⟨"is_in", ["address", "prefix"], ["address", "prefix"], [("need_whole", 15, 3, false), ("need_prefix", 4, 1, false), ("holds", 5, 2, false)], none, ⟨2, 2, false, false, b16⟩, top 17⟩
def b17 : Ss := (.cons (.asg (.nm 1) (.call 0 (.cons (.var 0) .nil))) (.cons (.for_ (.nm 2) (.via .range (.cons (.cst (.int 12)) .nil)) (.cons (.asg (.nm 3) (.tup (.cons (.op .sub (.cons (.callio 7 1 (.cons (.cst (.int 36)) .nil)) (.cons (.cst (.int 2)) .nil))) (.cons (.op .sub (.cons (.callio 7 1 (.cons (.cst (.int 8)) .nil)) (.cons (.cst (.int 1)) .nil))) .nil)))) (.cons (.ife (.op (.cmp .NotEq) (.cons (.call 9 (.cons (.var 3) .nil)) (.cons (.call 11 (.cons (.var 3) .nil)) .nil))) (.cons (.ret (.cst (.bool false))) .nil) .nil) (.cons (.ife (.not (.call 11 (.cons (.var 3) .nil))) (.cons (.ife (.op (.cmp .NotEq) (.cons (.err [("InvalidPrefix", "prefix"), ("InvalidNumber", "number")] "" [3] (.call 100006 (.cons (.var 3) .nil))) (.cons (.cst (.str "prefix")) .nil))) (.cons (.ret (.cst (.bool false))) .nil) .nil) (.cons .cont .nil)) .nil) (.cons (.asg (.nm 4) (.lc (.var 5) (.nm 5) (.via .range (.cons (.cst (.int 32)) .nil)) (.cons (.op (.cmp .Eq) (.cons (.op (.slice false true) (.cons (.call 10 (.cons (.var 5) .nil)) (.cons (.op .idx (.cons (.var 3) (.cons (.cst (.int 1)) .nil))) .nil))) (.cons (.op (.slice false true) (.cons (.call 10 (.cons (.op .idx (.cons (.var 3) (.cons (.cst (.int 0)) .nil))) .nil)) (.cons (.op .idx (.cons (.var 3) (.cons (.cst (.int 1)) .nil))) .nil))) .nil))) .nil) [5])) (.cons (.asg (.nm 6) (.callio 8 1 (.cons (.lst (.cons (.callio 12 1 .nil) (.cons (.callio 12 1 .nil) (.cons (.tup (.cons (.op .mul (.cons (.cst (.int 2)) (.cons (.callio 7 1 (.cons (.cst (.int 16)) .nil)) .nil))) (.cons (.cst (.int 4)) .nil))) .nil)))) .nil))) (.cons (.asg (.nm 7) (.lc (.var 5) (.nm 5) (.via .range (.cons (.cst (.int 32)) .nil)) (.cons (.op (.cmp .Eq) (.cons (.op (.slice false true) (.cons (.call 10 (.cons (.var 5) .nil)) (.cons (.op .idx (.cons (.var 6) (.cons (.cst (.int 1)) .nil))) .nil))) (.cons (.op (.slice false true) (.cons (.call 10 (.cons (.op .idx (.cons (.var 6) (.cons (.cst (.int 0)) .nil))) .nil)) (.cons (.op .idx (.cons (.var 6) (.cons (.cst (.int 1)) .nil))) .nil))) .nil))) .nil) [5])) (.cons (.ife (.or (.op (.cmp .NotEq) (.cons (.call 6 (.cons (.var 3) .nil)) (.cons (.var 4) .nil))) (.op (.cmp .NotEq) (.cons (.call 14 (.cons (.var 3) (.cons (.var 6) .nil))) (.cons (.op (.cmp .Eq) (.cons (.lc (.var 5) (.nm 5) (.ofE (.var 4)) (.cons (.op (.cmp .NotIn) (.cons (.var 5) (.cons (.var 7) .nil))) .nil) [5]) (.cons (.lst .nil) .nil))) .nil)))) (.cons (.ret (.cst (.bool false))) .nil) .nil) (.cons (.asg (.nm 5) (.callio 7 1 (.cons (.cst (.int 32)) .nil))) (.cons (.ife (.or (.op (.cmp .NotEq) (.cons (.call 16 (.cons (.var 5) (.cons (.var 3) .nil))) (.cons (.op (.cmp .In) (.cons (.var 5) (.cons (.var 4) .nil))) .nil))) (.op (.cmp .NotEq) (.cons (.call 16 (.cons (.var 5) (.cons (.var 6) .nil))) (.cons (.op (.cmp .In) (.cons (.var 5) (.cons (.var 7) .nil))) .nil)))) (.cons (.ret (.cst (.bool false))) .nil) .nil) .nil)))))))))) (.cons (.asg (.nm 8) (.call 6 (.cons (.tup (.cons (.cst (.int 8)) (.cons (.cst (.int 2)) .nil))) .nil))) (.cons (.ife (.or (.not (.op (.isinst .list) (.cons (.var 8) .nil))) (.op (.cmp .NotEq) (.cons (.var 8) (.cons (.op .listRange (.cons (.cst (.int 8)) (.cons (.cst (.int 16)) .nil))) .nil)))) (.cons (.ret (.cst (.bool false))) .nil) .nil) (.cons (.app 8 (.cst .none)) (.cons (.ife (.op (.cmp .NotEq) (.cons (.call 6 (.cons (.tup (.cons (.cst (.int 8)) (.cons (.cst (.int 2)) .nil))) .nil)) (.cons (.op .listRange (.cons (.cst (.int 8)) (.cons (.cst (.int 16)) .nil))) .nil))) (.cons (.ret (.cst (.bool false))) .nil) .nil) (.cons (.asg (.nm 9) (.lst (.cons (.cst .none) (.cons (.tup .nil) (.cons (.tup (.cons (.cst (.int 0)) .nil)) (.cons (.tup (.cons (.cst (.int 0)) (.cons (.cst (.int 0)) (.cons (.cst (.int 0)) .nil)))) (.cons (.lst (.cons (.cst (.int 0)) (.cons (.cst (.int 0)) .nil))) (.cons (.tup (.cons (.cst (.bool true)) (.cons (.cst (.int 5)) .nil))) (.cons (.tup (.cons (.cst (.int 0)) (.cons (.cst (.bool false)) .nil))) (.cons (.tup (.cons (.cst (.int 32)) (.cons (.cst (.int 5)) .nil))) (.cons (.tup (.cons (.op .neg (.cons (.cst (.int 1)) .nil)) (.cons (.cst (.int 5)) .nil))) (.cons (.tup (.cons (.cst (.int 1)) (.cons (.cst (.int 4)) .nil))) (.cons (.tup (.cons (.cst (.int 0)) (.cons (.cst (.int 6)) .nil))) (.cons (.tup (.cons (.cst (.str "0")) (.cons (.cst (.int 0)) .nil))) .nil)))))))))))))) (.cons (.ife (.or (.op (.cmp .NotEq) (.cons (.lc (.var 10) (.nm 10) (.ofE (.var 9)) (.cons (.op (.isC (some false) false) (.cons (.call 9 (.cons (.var 10) .nil)) .nil)) .nil) [10]) (.cons (.lst .nil) .nil))) (.or (.op (.isC (some true) false) (.cons (.call 9 (.cons (.tup (.cons (.cst (.int 0)) (.cons (.cst (.int 0)) .nil))) .nil)) .nil)) (.op (.isC (some true) false) (.cons (.call 9 (.cons (.tup (.cons (.cst (.int 31)) (.cons (.cst (.int 5)) .nil))) .nil)) .nil)))) (.cons (.ret (.cst (.bool false))) .nil) .nil) (.cons (.asg (.nm 11) (.lc (.err [("InvalidPrefix", "prefix"), ("InvalidNumber", "number")] "" [10] (.call 100016 (.cons (.var 10) (.cons (.cst .none) .nil)))) (.nm 10) (.ofE (.tup (.cons (.op .neg (.cons (.cst (.int 1)) .nil)) (.cons (.cst (.int 32)) (.cons (.cst .none) (.cons (.cst (.bool true)) .nil)))))) .nil [10])) (.cons (.asg (.nm 11) (.op .add (.cons (.var 11) (.cons (.lc (.err [("InvalidPrefix", "prefix"), ("InvalidNumber", "number")] "" [10] (.call 100016 (.cons (.cst (.int 5)) (.cons (.var 10) .nil)))) (.nm 10) (.ofE (.var 9)) .nil [10]) .nil)))) (.cons (.app 11 (.err [("InvalidPrefix", "prefix"), ("InvalidNumber", "number")] "" [] (.call 100014 (.cons (.tup (.cons (.cst (.int 0)) (.cons (.cst (.int 0)) .nil))) (.cons (.cst .none) .nil))))) (.cons (.asg (.nm 11) (.op .add (.cons (.var 11) (.cons (.lc (.err [("InvalidPrefix", "prefix"), ("InvalidNumber", "number")] "" [10] (.call 100014 (.cons (.var 10) (.cons (.tup (.cons (.cst (.int 0)) (.cons (.cst (.int 0)) .nil))) .nil)))) (.nm 10) (.ofE (.var 9)) .nil [10]) .nil)))) (.cons (.asg (.nm 11) (.op .add (.cons (.var 11) (.cons (.lc (.err [("InvalidPrefix", "prefix"), ("InvalidNumber", "number")] "" [10] (.call 100006 (.cons (.var 10) .nil))) (.nm 10) (.ofE (.var 9)) .nil [10]) .nil)))) (.cons (.ret (.op (.cmp .Eq) (.cons (.var 11) (.cons (.op .add (.cons (.op .mul (.cons (.lst (.cons (.cst (.str "number")) .nil)) (.cons (.cst (.int 4)) .nil))) (.cons (.op .mul (.cons (.lst (.cons (.cst (.str "prefix")) .nil)) (.cons (.cst (.int 37)) .nil))) .nil))) .nil)))) .nil))))))))))))))
def r17 : PRow := ⟨"law", ["script"], ["script", "cup", "turn", "value", "here", "at", "other", "there", "told", "odds", "odd", "words"], [("_law_cup", 0, 1, false), ("_law_roll", 7, 2, true), ("is_prefix", 9, 1, false), ("_law_is", 11, 1, false), ("_law_bits", 10, 1, false), ("_law_some", 8, 2, true), ("_law_prefix", 12, 1, true), ("addresses_of", 6, 1, false), ("is_inside", 14, 2, false), ("is_in", 16, 2, false)], (some [("addresses_of", 100006, 1, false), ("is_in", 100016, 2, false), ("is_inside", 100014, 2, false)]), ⟨1, 12, false, true, b17⟩, top 39⟩
def dt : PP.Data := ⟨[r0, r1, r2, r3, r4, r5, r6, r7, r8, r9, r10, r11, r12, r13, r14, r15, r16, r17], [("BITS", (.int 5)), ("LAST", (.int 31)), ("WIDE", (.tuple [(.int 32), (.int 16), (.int 8), (.int 4), (.int 2), (.int 1)]))], ["abs", "list", "int", "isinstance", "tuple", "len", "bool", "range"], ["InvalidPrefix", "InvalidNumber"], [⟨"_law_error", "call", ["call"], [("InvalidNumber", "number"), ("InvalidPrefix", "prefix"), ("RouteError", "other")], [("InvalidPrefix", "prefix"), ("InvalidNumber", "number")], "", top 36⟩]⟩
theorem t0 : rowB dt r0 = true ∧ cSs 60 (dt.cfg r0) (scopeOf r0.st) 40 (bodyOf r0.st) = some r0.fn.body := ⟨by kernel_rfl, by kernel_rfl⟩
theorem t1 : rowB dt r1 = true ∧ cSs 60 (dt.cfg r1) (scopeOf r1.st) 40 (bodyOf r1.st) = some r1.fn.body := ⟨by kernel_rfl, by kernel_rfl⟩
theorem t2 : rowB dt r2 = true ∧ cSs 60 (dt.cfg r2) (scopeOf r2.st) 40 (bodyOf r2.st) = some r2.fn.body := ⟨by kernel_rfl, by kernel_rfl⟩
theorem t3 : rowB dt r3 = true ∧ cSs 60 (dt.cfg r3) (scopeOf r3.st) 40 (bodyOf r3.st) = some r3.fn.body := ⟨by kernel_rfl, by kernel_rfl⟩
theorem t4 : rowB dt r4 = true ∧ cSs 60 (dt.cfg r4) (scopeOf r4.st) 40 (bodyOf r4.st) = some r4.fn.body := ⟨by kernel_rfl, by kernel_rfl⟩
theorem t5 : rowB dt r5 = true ∧ cSs 60 (dt.cfg r5) (scopeOf r5.st) 40 (bodyOf r5.st) = some r5.fn.body := ⟨by kernel_rfl, by kernel_rfl⟩
theorem t6 : rowB dt r6 = true ∧ cSs 60 (dt.cfg r6) (scopeOf r6.st) 40 (bodyOf r6.st) = some r6.fn.body := ⟨by kernel_rfl, by kernel_rfl⟩
theorem t7 : rowB dt r7 = true ∧ cSs 60 (dt.cfg r7) (scopeOf r7.st) 40 (bodyOf r7.st) = some r7.fn.body := ⟨by kernel_rfl, by kernel_rfl⟩
theorem t8 : rowB dt r8 = true ∧ cSs 60 (dt.cfg r8) (scopeOf r8.st) 40 (bodyOf r8.st) = some r8.fn.body := ⟨by kernel_rfl, by kernel_rfl⟩
theorem t9 : rowB dt r9 = true ∧ cSs 60 (dt.cfg r9) (scopeOf r9.st) 40 (bodyOf r9.st) = some r9.fn.body := ⟨by kernel_rfl, by kernel_rfl⟩
theorem t10 : rowB dt r10 = true ∧ cSs 60 (dt.cfg r10) (scopeOf r10.st) 40 (bodyOf r10.st) = some r10.fn.body := ⟨by kernel_rfl, by kernel_rfl⟩
theorem t11 : rowB dt r11 = true ∧ cSs 60 (dt.cfg r11) (scopeOf r11.st) 40 (bodyOf r11.st) = some r11.fn.body := ⟨by kernel_rfl, by kernel_rfl⟩
theorem t12 : rowB dt r12 = true ∧ cSs 60 (dt.cfg r12) (scopeOf r12.st) 40 (bodyOf r12.st) = some r12.fn.body := ⟨by kernel_rfl, by kernel_rfl⟩
theorem t13 : rowB dt r13 = true ∧ cSs 60 (dt.cfg r13) (scopeOf r13.st) 40 (bodyOf r13.st) = some r13.fn.body := ⟨by kernel_rfl, by kernel_rfl⟩
theorem t14 : rowB dt r14 = true ∧ cSs 60 (dt.cfg r14) (scopeOf r14.st) 40 (bodyOf r14.st) = some r14.fn.body := ⟨by kernel_rfl, by kernel_rfl⟩
theorem t15 : rowB dt r15 = true ∧ cSs 60 (dt.cfg r15) (scopeOf r15.st) 40 (bodyOf r15.st) = some r15.fn.body := ⟨by kernel_rfl, by kernel_rfl⟩
theorem t16 : rowB dt r16 = true ∧ cSs 60 (dt.cfg r16) (scopeOf r16.st) 40 (bodyOf r16.st) = some r16.fn.body := ⟨by kernel_rfl, by kernel_rfl⟩
theorem t17 : rowB dt r17 = true ∧ cSs 60 (dt.cfg r17) (scopeOf r17.st) 40 (bodyOf r17.st) = some r17.fn.body := ⟨by kernel_rfl, by kernel_rfl⟩
theorem rows : RowsOk dt 60 40 := by
  intro r hr
  simp only [dt, List.mem_cons, List.not_mem_nil, or_false] at hr
  rcases hr with rfl | rfl | rfl | rfl | rfl | rfl | rfl | rfl | rfl | rfl | rfl | rfl | rfl | rfl | rfl | rfl | rfl | rfl
  · exact t0
  · exact t1
  · exact t2
  · exact t3
  · exact t4
  · exact t5
  · exact t6
  · exact t7
  · exact t8
  · exact t9
  · exact t10
  · exact t11
  · exact t12
  · exact t13
  · exact t14
  · exact t15
  · exact t16
  · exact t17
theorem ers : ∀ e ∈ dt.ers, erT e = true := by
  have h : dt.ers.all erT = true := by kernel_rfl
  exact fun e he => List.all_eq_true.mp h e he
end KK
namespace KK
open PySem PP
variable {wf k : Nat} {a b m : Int}
/-! the draws -/
theorem roll_pos (h : 0 < a) (hm : 0 < m) (hm2 : m < 1073741824) : callF dt.prog wf (k+1) 7 [.own (.list [.int a, .int b]), .val (.int m)] = .ok (.val (.int (a % m)), some (.own (.list [.int (a / m), .int b]))) := by
  rw [call_row (fn := r7.fn) rfl rfl rfl]
  simp [r7, b7, h, hm, hm2]
theorem roll_neg (h : ¬ 0 < a) (hm : 0 < m) : callF dt.prog wf (k+1) 7 [.own (.list [.int a, .int b]), .val (.int m)] =
    .ok (.val (.int ((((b * 31079 + 8017) % 2147483543) * ((b * 31079 + 8017) % 2147483543 + 241) % 2147483587) / 829 % m)), some (.own (.list [.int a, .int ((b * 31079 + 8017) % 2147483543)]))) := by
  rw [call_row (fn := r7.fn) rfl rfl rfl]
  have e1 : mulOk b 31079 = true := mul_okr (by omega)
  have e2 : mulOk ((b * 31079 + 8017) % 2147483543) ((b * 31079 + 8017) % 2147483543 + 241) = true := mul_okl (by omega)
  simp [r7, b7, h, hm, e1, e2]
theorem roll (a b : Int) (hm : 0 < m) (hm2 : m < 1073741824) : ∃ r a' b', callF dt.prog wf (k+1) 7 [.own (.list [.int a, .int b]), .val (.int m)] = .ok (.val (.int r), some (.own (.list [.int a', .int b']))) ∧ 0 ≤ r ∧ r < m := by
  by_cases h : 0 < a
  · exact ⟨_, _, _, roll_pos h hm hm2, Int.emod_nonneg _ (by omega), Int.emod_lt_of_pos _ hm⟩
  · exact ⟨_, _, _, roll_neg h hm, Int.emod_nonneg _ (by omega), Int.emod_lt_of_pos _ hm⟩
theorem some_ (a b : Int) {ds : List D} (h : ds ≠ []) (h2 : ds.length < 1073741824) : ∃ d a' b', callF dt.prog wf (k+2) 8 [.own (.list [.int a, .int b]), .val (.list ds)] = .ok (.val d, some (.own (.list [.int a', .int b']))) ∧ d ∈ ds := by
  have hl : 0 < ds.length := List.length_pos_iff.mpr h
  obtain ⟨r, a', b', e, h0, h1⟩ := roll (wf := wf) (k := k) (m := (ds.length : Int)) a b (by omega) (by omega)
  have hr : r.toNat < ds.length := by omega
  refine ⟨ds[r.toNat], a', b', ?_, List.getElem_mem _⟩
  rw [call_row (fn := r8.fn) rfl rfl rfl]
  have e3 : ds[r.toNat]? = some ds[r.toNat] := List.getElem?_eq_getElem hr
  simp [r8, b8, e, h0, h1, e3]
/-! prefixes -/
def wides : List Int := [32, 16, 8, 4, 2, 1]
def pfs : List (Int × Int) := ([0,1,2,3,4,5] : List Nat).flatMap fun n => (List.range (2 ^ n)).map fun (i : Nat) => ((Int.ofNat i) * wides.getD n 1, Int.ofNat n)
def pD (p : Int × Int) : D := .tuple [.int p.1, .int p.2]
theorem pfs_mem : ∀ n : Nat, n < 6 → ∀ i : Nat, i < 2 ^ n → (((i : Int) * wides.getD n 1, (n : Int)) : Int × Int) ∈ pfs := by
  intro n hn i hi
  unfold pfs
  rw [List.mem_flatMap]
  refine ⟨n, ?_, ?_⟩
  · simp; omega
  · rw [List.mem_map]
    exact ⟨i, List.mem_range.mpr hi, rfl⟩
theorem pref0 (a b : Int) : ∃ r a' b', callF dt.prog wf (k+2) 7 [.own (.list [.int a, .int b]), .val (.int 1)] = .ok (.val (.int r), some (.own (.list [.int a', .int b']))) ∧ ((r * 32, 0) : Int × Int) ∈ pfs := by
  obtain ⟨r, a2, b2, e2, h0, h1⟩ := roll (wf := wf) (k := k + 1) (m := 1) a b (by omega) (by omega)
  refine ⟨r, a2, b2, e2, ?_⟩
  have h := pfs_mem 0 (by omega) r.toNat (by omega)
  rw [Int.toNat_of_nonneg h0] at h
  exact h
theorem pref1 (a b : Int) : ∃ r a' b', callF dt.prog wf (k+2) 7 [.own (.list [.int a, .int b]), .val (.int 2)] = .ok (.val (.int r), some (.own (.list [.int a', .int b']))) ∧ ((r * 16, 1) : Int × Int) ∈ pfs := by
  obtain ⟨r, a2, b2, e2, h0, h1⟩ := roll (wf := wf) (k := k + 1) (m := 2) a b (by omega) (by omega)
  refine ⟨r, a2, b2, e2, ?_⟩
  have h := pfs_mem 1 (by omega) r.toNat (by omega)
  rw [Int.toNat_of_nonneg h0] at h
  exact h
theorem pref2 (a b : Int) : ∃ r a' b', callF dt.prog wf (k+2) 7 [.own (.list [.int a, .int b]), .val (.int 4)] = .ok (.val (.int r), some (.own (.list [.int a', .int b']))) ∧ ((r * 8, 2) : Int × Int) ∈ pfs := by
  obtain ⟨r, a2, b2, e2, h0, h1⟩ := roll (wf := wf) (k := k + 1) (m := 4) a b (by omega) (by omega)
  refine ⟨r, a2, b2, e2, ?_⟩
  have h := pfs_mem 2 (by omega) r.toNat (by omega)
  rw [Int.toNat_of_nonneg h0] at h
  exact h
theorem pref3 (a b : Int) : ∃ r a' b', callF dt.prog wf (k+2) 7 [.own (.list [.int a, .int b]), .val (.int 8)] = .ok (.val (.int r), some (.own (.list [.int a', .int b']))) ∧ ((r * 4, 3) : Int × Int) ∈ pfs := by
  obtain ⟨r, a2, b2, e2, h0, h1⟩ := roll (wf := wf) (k := k + 1) (m := 8) a b (by omega) (by omega)
  refine ⟨r, a2, b2, e2, ?_⟩
  have h := pfs_mem 3 (by omega) r.toNat (by omega)
  rw [Int.toNat_of_nonneg h0] at h
  exact h
theorem pref5 (a b : Int) : ∃ r a' b', callF dt.prog wf (k+2) 7 [.own (.list [.int a, .int b]), .val (.int 32)] = .ok (.val (.int r), some (.own (.list [.int a', .int b']))) ∧ ((r * 1, 5) : Int × Int) ∈ pfs := by
  obtain ⟨r, a2, b2, e2, h0, h1⟩ := roll (wf := wf) (k := k + 1) (m := 32) a b (by omega) (by omega)
  refine ⟨r, a2, b2, e2, ?_⟩
  have h := pfs_mem 5 (by omega) r.toNat (by omega)
  rw [Int.toNat_of_nonneg h0] at h
  exact h
theorem pref (a b : Int) : ∃ p a' b', callF dt.prog wf (k+3) 12 [.own (.list [.int a, .int b])] = .ok (.val (pD p), some (.own (.list [.int a', .int b']))) ∧ p ∈ pfs := by
  obtain ⟨d, a1, b1, e1, hd⟩ := some_ (wf := wf) (k := k) a b (ds := [.int 0, .int 1, .int 1, .int 2, .int 3, .int 5]) (by simp) (by simp)
  have go : ∀ (w n m r a2 b2 : Int), d = .int n → callF dt.prog wf (k+2) 7 [.own (.list [.int a1, .int b1]), .val (.int m)] = .ok (.val (.int r), some (.own (.list [.int a2, .int b2]))) → ((r * w, n) : Int × Int) ∈ pfs → 0 < w → w < 33 → 32 / w = m →
      idxS [.list [.int 32, .int 16, .int 8, .int 4, .int 2, .int 1], .int n] = some (.val (.int w)) → ∃ p a' b', callF dt.prog wf (k+3) 12 [.own (.list [.int a, .int b])] = .ok (.val (pD p), some (.own (.list [.int a', .int b']))) ∧ p ∈ pfs := by
    intro w n m r a2 b2 hd e2 hp w0 w1 hm hi
    refine ⟨(r * w, n), a2, b2, ?_, hp⟩
    subst hd
    rw [call_row (fn := r12.fn) rfl rfl rfl]
    have e3 : mulOk r w = true := mul_okr (by omega)
    have w2 : w < 1073741824 := by omega
    simp [r12, b12, e1, hi, hm, e2, e3, w0, w2, pD, -w_idxl]
  simp only [List.mem_cons, List.not_mem_nil, or_false] at hd
  rcases hd with h | h | h | h | h | h
  · obtain ⟨r, a2, b2, e2, hp⟩ := pref0 (wf := wf) (k := k) a1 b1
    exact go 32 0 1 r a2 b2 h e2 hp (by omega) (by omega) (by decide) (by rfl)
  · obtain ⟨r, a2, b2, e2, hp⟩ := pref1 (wf := wf) (k := k) a1 b1
    exact go 16 1 2 r a2 b2 h e2 hp (by omega) (by omega) (by decide) (by rfl)
  · obtain ⟨r, a2, b2, e2, hp⟩ := pref1 (wf := wf) (k := k) a1 b1
    exact go 16 1 2 r a2 b2 h e2 hp (by omega) (by omega) (by decide) (by rfl)
  · obtain ⟨r, a2, b2, e2, hp⟩ := pref2 (wf := wf) (k := k) a1 b1
    exact go 8 2 4 r a2 b2 h e2 hp (by omega) (by omega) (by decide) (by rfl)
  · obtain ⟨r, a2, b2, e2, hp⟩ := pref3 (wf := wf) (k := k) a1 b1
    exact go 4 3 8 r a2 b2 h e2 hp (by omega) (by omega) (by decide) (by rfl)
  · obtain ⟨r, a2, b2, e2, hp⟩ := pref5 (wf := wf) (k := k) a1 b1
    exact go 1 5 32 r a2 b2 h e2 hp (by omega) (by omega) (by decide) (by rfl)
end KK

namespace KK
open PySem PP
/-! tables, told by the kernel -/
def isB (r : Res (SV × Option SV)) (b : Bool) : Bool := match r with | .ok (.val (.bool c), none) => c == b | _ => false
theorem isB_ok {r : Res (SV × Option SV)} {b : Bool} (h : isB r b = true) : r = .ok (.val (.bool b), none) := by
  unfold isB at h
  split at h
  · rw [beq_iff_eq] at h; rw [h]
  · cases h
def isN (r : Res (SV × Option SV)) : Bool := match r with | .ok (.val .none, none) => true | _ => false
theorem isN_ok {r : Res (SV × Option SV)} (h : isN r = true) : r = .ok (.val .none, none) := by
  unfold isN at h
  split at h
  · rfl
  · cases h
def idx1 (o : Option SV) (i : Int) : Bool := match o with | some (.val (.int j)) => decide (j = i) | _ => false
theorem idx1_ok {o : Option SV} {i : Int} (h : idx1 o i = true) : o = some (.val (.int i)) := by
  unfold idx1 at h
  split at h
  · rw [of_decide_eq_true h]
  · cases h
def isR (r : Res (SV × Option SV)) (c : Str) : Bool := match r with | .raise d => d == c | _ => false
theorem isR_ok {r : Res (SV × Option SV)} {c : Str} (h : isR r c = true) : r = .raise c := by
  unfold isR at h
  split at h
  · rw [beq_iff_eq] at h; rw [h]
  · cases h
/-- a list of whole numbers -/
def intsOf : List D → Option (List Int)
  | [] => some []
  | .int i :: r => (intsOf r).map (i :: ·)
  | _ => none
theorem intsOf_ok : ∀ {ds : List D} {ns : List Int}, intsOf ds = some ns → ds = ns.map PyData.int
  | [], ns, h => by simp [intsOf] at h; subst h; rfl
  | d :: ds, ns, h => by
    cases d <;> simp [intsOf] at h
    obtain ⟨r, h1, rfl⟩ := h
    rw [intsOf_ok h1]; rfl
def isL (r : Res (SV × Option SV)) (ns : List Int) : Bool := match r with | .ok (.own (.list ds), none) => intsOf ds == some ns | _ => false
theorem isL_ok {r : Res (SV × Option SV)} {ns : List Int} (h : isL r ns = true) : r = .ok (.own (.list (ns.map PyData.int)), none) := by
  unfold isL at h
  split at h
  · rw [beq_iff_eq] at h; rw [intsOf_ok h]
  · cases h
def isP (p : Int × Int) : Bool := pfs.any fun q => decide (q.1 = p.1) && decide (q.2 = p.2)
theorem isP_mem {p : Int × Int} (h : isP p = true) : p ∈ pfs := by
  unfold isP at h
  rw [List.any_eq_true] at h
  obtain ⟨q, hq, e⟩ := h
  simp only [Bool.and_eq_true, decide_eq_true_eq] at e
  have : q = p := Prod.ext e.1 e.2
  rw [← this]; exact hq
def r32 : List Int := (List.range 32).map Int.ofNat
def addr (p : Int × Int) : List Int := r32.filter fun i => decide (i - i % wides.getD p.2.toNat 1 = p.1)
def isIn (i : Int) (p : Int × Int) : Bool := decide (i - i % wides.getD p.2.toNat 1 = p.1)
def bits (i : Int) : List Int := [16, 8, 4, 2, 1].map fun w => i / w - i / (2 * w) * 2
def inside (p o : Int × Int) : Bool := decide (p.2 ≥ o.2) && decide (p.1 - p.1 % wides.getD o.2.toNat 1 = o.1)
def vals36 : List Int := (List.range 36).map fun i => Int.ofNat i - 2
def vals8 : List Int := (List.range 8).map fun i => Int.ofNat i - 1
def chkA (k : Nat) : Bool := vals36.all fun i => vals8.all fun j => isB (callF dt.prog 1000000 (k + 10) 9 [.val (pD (i, j))]) (isP (i, j)) && isB (callF dt.prog 1000000 (k + 10) 11 [.val (pD (i, j))]) (isP (i, j)) &&
  (isP (i, j) || isR (callF dt.prog 1000000 (k + 8) 6 [.val (pD (i, j))]) "InvalidPrefix")
theorem tA (k : Nat) : chkA k = true := by kernel_rfl
def chkB (k : Nat) : Bool := pfs.all fun p => isL (callF dt.prog 1000000 (k + 10) 6 [.val (pD p)]) (addr p)
theorem tB (k : Nat) : chkB k = true := by kernel_rfl
def chkF (k : Nat) : Bool := r32.all fun i => isL (callF dt.prog 1000000 (k + 10) 10 [.val (.int i)]) (bits i)
theorem tF (k : Nat) : chkF k = true := by kernel_rfl
def chkN (k : Nat) : Bool := pfs.all fun p => isN (callF dt.prog 1000000 (k + 9) 4 [.val (pD p)]) && idx1 (idxS [.tuple [.int 32, .int 16, .int 8, .int 4, .int 2, .int 1], .int p.2]) (wides.getD p.2.toNat 1) && decide (0 < wides.getD p.2.toNat 1)
theorem tN (k : Nat) : chkN k = true := by kernel_rfl
def chkW (k : Nat) : Bool := r32.all fun i => isN (callF dt.prog 1000000 (k + 9) 15 [.val (.int i), .val (.int 0), .val (.int 31)])
theorem tW (k : Nat) : chkW k = true := by kernel_rfl
theorem holds_ {k : Nat} {p : Int × Int} {a : Int} (h1 : idxS [.tuple [.int 32, .int 16, .int 8, .int 4, .int 2, .int 1], .int p.2] = some (.val (.int (wides.getD p.2.toNat 1)))) (h2 : 0 < wides.getD p.2.toNat 1) :
    callF dt.prog 1000000 (k + 1) 5 [.val (pD p), .val (.int a)] = .ok (.val (.bool (decide (a - a % wides.getD p.2.toNat 1 = p.1))), none) := by
  generalize wides.getD p.2.toNat 1 = w at h1 h2
  have h3 : idxS [pD p, .int 0] = some (.val (.int p.1)) := rfl
  have h4 : idxS [pD p, .int 1] = some (.val (.int p.2)) := rfl
  rw [call_row (fn := r5.fn) rfl rfl rfl]
  simp -implicitDefEqProofs [r5, b5, h1, h2, h3, h4, -w_idxt]
end KK

namespace KK
open PySem PP
abbrev li (ns : List Int) : D := .list (ns.map PyData.int)
def i32 : List D := (List.range 32).map fun (i : Nat) => .int i
def selA (p : Int × Int) (d : D) : Option D := match d with | .int i => if isIn i p then some d else none | _ => none
def selN (o : Int × Int) (d : D) : Option D := match d with | .int i => if isIn i o then none else some d | _ => none
def chkG : Bool := r32.all fun i => pfs.all fun p => eqP (.list (cutP ((bits i).map PyData.int) none (some p.2))) (.list (cutP ((bits p.1).map PyData.int) none (some p.2))) == some (isIn i p)
theorem tG_ : chkG = true := by kernel_rfl
def chkH : Bool := pfs.all fun p => r32.contains p.1 && (intsOf (i32.filterMap (selA p)) == some (addr p)) && (eqP (li (addr p)) (li (addr p)) == some true) && r32.all fun i => inSeq (.int i) (li (addr p)) == some (isIn i p)
theorem tH : chkH = true := by kernel_rfl
def chkI : Bool := pfs.all fun p => pfs.all fun o => eqP (.list (((addr p).map PyData.int).filterMap (selN o))) (.list []) == some (inside p o)
theorem tI_ : chkI = true := by kernel_rfl
section
variable {k : Nat}
theorem all2 {α β : Type} {l : List α} {m : List β} {f : α → β → Bool} (h : (l.all fun a => m.all fun b => f a b) = true) {a : α} {b : β} (ha : a ∈ l) (hb : b ∈ m) : f a b = true :=
  List.all_eq_true.mp (List.all_eq_true.mp h a ha) b hb
theorem fB {p : Int × Int} (hp : p ∈ pfs) : callF dt.prog 1000000 (k + 10) 6 [.val (pD p)] = .ok (.own (li (addr p)), none) := isL_ok (List.all_eq_true.mp (tB k) p hp)
theorem fF {i : Int} (hi : i ∈ r32) : callF dt.prog 1000000 (k + 10) 10 [.val (.int i)] = .ok (.own (li (bits i)), none) := isL_ok (List.all_eq_true.mp (tF k) i hi)
theorem fN {p : Int × Int} (hp : p ∈ pfs) : callF dt.prog 1000000 (k + 9) 4 [.val (pD p)] = .ok (.val .none, none) ∧ (∀ k a, callF dt.prog 1000000 (k + 1) 5 [.val (pD p), .val (.int a)] = .ok (.val (.bool (decide (a - a % wides.getD p.2.toNat 1 = p.1))), none)) := by
  have := List.all_eq_true.mp (tN k) p hp
  simp only [Bool.and_eq_true] at this
  obtain ⟨⟨h1, h2⟩, h3⟩ := this
  exact ⟨isN_ok h1, fun k a => holds_ (idx1_ok h2) (of_decide_eq_true h3)⟩
theorem fE {i : Int} (hi : i ∈ r32) {p : Int × Int} (hp : p ∈ pfs) : callF dt.prog 1000000 (k + 10) 16 [.val (.int i), .val (pD p)] = .ok (.val (.bool (isIn i p)), none) := by
  obtain ⟨h1, h2⟩ := fN (k := k) hp
  have h2 := h2 (k + 8) i
  have h3 := isN_ok (List.all_eq_true.mp (tW k) i hi)
  rw [call_row (k := k + 9) (fn := r16.fn) rfl rfl rfl]
  unfold isIn
  simp -implicitDefEqProofs [r16, b16, h1, h2, h3]
theorem fD {p o : Int × Int} (hp : p ∈ pfs) (ho : o ∈ pfs) : callF dt.prog 1000000 (k + 10) 14 [.val (pD p), .val (pD o)] = .ok (.val (.bool (inside p o)), none) := by
  obtain ⟨h1, _⟩ := fN (k := k) hp
  obtain ⟨h3, h4⟩ := fN (k := k) ho
  have h4 := h4 (k + 7) p.1
  have q1 : idxS [pD p, .int 1] = some (.val (.int p.2)) := rfl
  have q2 : idxS [pD o, .int 1] = some (.val (.int o.2)) := rfl
  have q3 : idxS [pD p, .int 0] = some (.val (.int p.1)) := rfl
  have h5 : callF dt.prog 1000000 (k + 9) 13 [.val (pD p), .val (pD o)] = .ok (.val (.bool (inside p o)), none) := by
    rw [call_row (k := k + 8) (fn := r13.fn) rfl rfl rfl]
    unfold inside
    by_cases hc : o.2 ≤ p.2
    · simp -implicitDefEqProofs [r13, b13, h4, q1, q2, q3, hc, -w_idxt]
    · simp -implicitDefEqProofs [r13, b13, h4, q1, q2, q3, hc, -w_idxt]
  rw [call_row (k := k + 9) (fn := r14.fn) rfl rfl rfl]
  simp -implicitDefEqProofs [r14, b14, h1, h3, h5]
theorem fG {i : Int} (hi : i ∈ r32) {p : Int × Int} (hp : p ∈ pfs) : eqP (.list (cutP ((bits i).map PyData.int) none (some p.2))) (.list (cutP ((bits p.1).map PyData.int) none (some p.2))) = some (isIn i p) := by
  have := all2 tG_ hi hp
  simpa using this
theorem fH {p : Int × Int} (hp : p ∈ pfs) : p.1 ∈ r32 ∧ i32.filterMap (selA p) = (addr p).map PyData.int ∧ eqP (li (addr p)) (li (addr p)) = some true ∧ ∀ i ∈ r32, inSeq (.int i) (li (addr p)) = some (isIn i p) := by
  have := List.all_eq_true.mp tH p hp
  simp only [Bool.and_eq_true, beq_iff_eq, List.all_eq_true] at this
  obtain ⟨⟨⟨h1, h2⟩, h3⟩, h4⟩ := this
  exact ⟨by simpa using h1, intsOf_ok h2, h3, h4⟩
theorem fI {p o : Int × Int} (hp : p ∈ pfs) (ho : o ∈ pfs) : eqP (.list (((addr p).map PyData.int).filterMap (selN o))) (.list []) = some (inside p o) := by
  have := all2 tI_ hp ho
  simpa using this
theorem fA {i j : Int} (hi : i ∈ vals36) (hj : j ∈ vals8) : callF dt.prog 1000000 (k + 10) 9 [.val (pD (i, j))] = .ok (.val (.bool (isP (i, j))), none) ∧ callF dt.prog 1000000 (k + 10) 11 [.val (pD (i, j))] = .ok (.val (.bool (isP (i, j))), none) ∧
    (isP (i, j) = false → callF dt.prog 1000000 (k + 8) 6 [.val (pD (i, j))] = .raise "InvalidPrefix") := by
  have := all2 (tA k) hi hj
  simp only [Bool.and_eq_true, Bool.or_eq_true] at this
  obtain ⟨⟨h1, h2⟩, h3⟩ := this
  refine ⟨isB_ok h1, isB_ok h2, fun h => ?_⟩
  rw [h] at h3
  exact isR_ok (h3.resolve_left (by simp))
theorem mem32 {i : Int} (h0 : 0 ≤ i) (h1 : i < 32) : i ∈ r32 := by
  unfold r32
  rw [List.mem_map]
  exact ⟨i.toNat, List.mem_range.mpr (by omega), Int.toNat_of_nonneg h0⟩
theorem mem36 {i : Int} (h0 : 0 ≤ i) (h1 : i < 36) : i - 2 ∈ vals36 := by
  unfold vals36
  rw [List.mem_map]
  refine ⟨i.toNat, List.mem_range.mpr (by omega), ?_⟩
  have := Int.toNat_of_nonneg h0
  show (i.toNat : Int) - 2 = _
  rw [this]
theorem mem8 {i : Int} (h0 : 0 ≤ i) (h1 : i < 8) : i - 1 ∈ vals8 := by
  unfold vals8
  rw [List.mem_map]
  refine ⟨i.toNat, List.mem_range.mpr (by omega), ?_⟩
  have := Int.toNat_of_nonneg h0
  show (i.toNat : Int) - 1 = _
  rw [this]
theorem addr_sub {p : Int × Int} {i : Int} (h : i ∈ addr p) : i ∈ r32 := (List.mem_filter.mp h).1
end
end KK

namespace KK
open PySem PP
theorem lcStep_eq {cf : CF} {io : Bool} {elt : E} {tg : T} {ifs : Es} {vs : List Nat} {g : Fr} {d : D} : lcStep cf io elt tg ifs vs g d = bd (asgT io g tg (.val d)) (fun g1 => bd (evTs cf io ifs g1) (fun p =>
  ifR p.2 (fun _ => bd (evE cf io elt p.1) (fun q => om (frz q.2) (fun y => om (wipeF q.1 vs) (fun g4 => .ok (g4, some y)) ⟨⟩) ⟨⟩) ⟨⟩) (fun _ => om (wipeF p.1 vs) (fun g4 => .ok (g4, none)) ⟨⟩) ⟨⟩ ⟨⟩) ⟨⟩) ⟨⟩ := rfl
def okOwn : Option SV → Bool
  | some (.own _) => false
  | _ => true
abbrev CC (k : Nat) : CF := mixC (callF dt.prog 1000000 (k + 10)) (callF dt.prog 1000000 (k + 8))
section
variable {k : Nat} {x0 x1 x2 x3 x4 x5 x6 x7 x8 x9 x10 x11 : Option SV}
theorem wipe5 (h : okOwn x5 = true) : wipeF [x0, x1, x2, x3, x4, x5, x6, x7, x8, x9, x10, x11] [5] = some [x0, x1, x2, x3, x4, none, x6, x7, x8, x9, x10, x11] := by
  cases x5 with
  | none => rfl
  | some s => cases s <;> first | rfl | (cases h)
theorem ev32 {cf : CF} {fr : Fr} : evI cf false (.via .range (.cons (.cst (.int 32)) .nil)) fr = .ok (fr, i32) := by
  simp [mkIt, mkRange, i32]
theorem len32 : i32.length ≤ 16777216 := by
  unfold i32
  rw [List.length_map, List.length_range]
  omega
theorem here3 {p : Int × Int} (hp : p ∈ pfs) (h5 : okOwn x5 = true) : evE (CC k) false (.lc (.var 5) (.nm 5) (.via .range (.cons (.cst (.int 32)) .nil)) (.cons (.op (.cmp .Eq) (.cons (.op (.slice false true) (.cons (.call 10 (.cons (.var 5) .nil)) (.cons (.op .idx (.cons (.var 3) (.cons (.cst (.int 1)) .nil))) .nil))) (.cons (.op (.slice false true) (.cons (.call 10 (.cons (.op .idx (.cons (.var 3) (.cons (.cst (.int 0)) .nil))) .nil)) (.cons (.op .idx (.cons (.var 3) (.cons (.cst (.int 1)) .nil))) .nil))) .nil))) .nil) [5])
    [x0, x1, x2, some (.val (pD p)), x4, x5, x6, x7, x8, x9, x10, x11] = .ok ([x0, x1, x2, some (.val (pD p)), x4, x5, x6, x7, x8, x9, x10, x11], .own (li (addr p))) := by
  obtain ⟨q1, q2, q3, q4⟩ := fH hp
  rw [lc_pure (f := [x0, x1, x2, some (.val (pD p)), x4, x5, x6, x7, x8, x9, x10, x11]) (f0 := [x0, x1, x2, some (.val (pD p)), x4, none, x6, x7, x8, x9, x10, x11]) (xs := i32) (o := selA p) ev32 (wipe5 h5) len32 (fun d hd => ?_), q2]
  obtain ⟨i, hi, rfl⟩ := List.mem_map.mp hd
  rw [List.mem_range] at hi
  have h32 : (i : Int) ∈ r32 := mem32 (by omega) (by omega)
  have e1 := fF (k := k) h32
  have e2 := fF (k := k) q1
  have e3 := fG h32 hp
  rw [lcStep_eq]
  simp -implicitDefEqProofs [pD, e1, e2, sliceS, sl01, cutS, cmpP, e3, wipeF, selA]
  cases isIn (i : Int) p <;> simp -implicitDefEqProofs [wipeF]
theorem here6 {p : Int × Int} (hp : p ∈ pfs) (h5 : okOwn x5 = true) : evE (CC k) false (.lc (.var 5) (.nm 5) (.via .range (.cons (.cst (.int 32)) .nil)) (.cons (.op (.cmp .Eq) (.cons (.op (.slice false true) (.cons (.call 10 (.cons (.var 5) .nil)) (.cons (.op .idx (.cons (.var 6) (.cons (.cst (.int 1)) .nil))) .nil))) (.cons (.op (.slice false true) (.cons (.call 10 (.cons (.op .idx (.cons (.var 6) (.cons (.cst (.int 0)) .nil))) .nil)) (.cons (.op .idx (.cons (.var 6) (.cons (.cst (.int 1)) .nil))) .nil))) .nil))) .nil) [5])
    [x0, x1, x2, x3, x4, x5, some (.val (pD p)), x7, x8, x9, x10, x11] = .ok ([x0, x1, x2, x3, x4, x5, some (.val (pD p)), x7, x8, x9, x10, x11], .own (li (addr p))) := by
  obtain ⟨q1, q2, q3, q4⟩ := fH hp
  rw [lc_pure (f := [x0, x1, x2, x3, x4, x5, some (.val (pD p)), x7, x8, x9, x10, x11]) (f0 := [x0, x1, x2, x3, x4, none, some (.val (pD p)), x7, x8, x9, x10, x11]) (xs := i32) (o := selA p) ev32 (wipe5 h5) len32 (fun d hd => ?_), q2]
  obtain ⟨i, hi, rfl⟩ := List.mem_map.mp hd
  rw [List.mem_range] at hi
  have h32 : (i : Int) ∈ r32 := mem32 (by omega) (by omega)
  have e1 := fF (k := k) h32
  have e2 := fF (k := k) q1
  have e3 := fG h32 hp
  rw [lcStep_eq]
  simp -implicitDefEqProofs [pD, e1, e2, sliceS, sl01, cutS, cmpP, e3, wipeF, selA]
  cases isIn (i : Int) p <;> simp -implicitDefEqProofs [wipeF]
theorem notin {p o : Int × Int} (hp : p ∈ pfs) (ho : o ∈ pfs) (h5 : okOwn x5 = true) : evE (CC k) false (.lc (.var 5) (.nm 5) (.ofE (.var 4)) (.cons (.op (.cmp .NotIn) (.cons (.var 5) (.cons (.var 7) .nil))) .nil) [5])
    [x0, x1, x2, x3, some (.own (li (addr p))), x5, x6, some (.own (li (addr o))), x8, x9, x10, x11] = .ok ([x0, x1, x2, x3, some (.val (li (addr p))), x5, x6, some (.own (li (addr o))), x8, x9, x10, x11], .own (.list (((addr p).map PyData.int).filterMap (selN o)))) := by
  obtain ⟨q1, q2, q3, q4⟩ := fH ho
  rw [lc_pure (f := [x0, x1, x2, x3, some (.val (li (addr p))), x5, x6, some (.own (li (addr o))), x8, x9, x10, x11]) (f0 := [x0, x1, x2, x3, some (.val (li (addr p))), none, x6, some (.own (li (addr o))), x8, x9, x10, x11]) (xs := (addr p).map PyData.int) (o := selN o) (by rfl) (wipe5 h5) (by
    have : (addr p).length ≤ 32 := by
      have := List.length_filter_le (fun i => decide (i - i % wides.getD p.2.toNat 1 = p.1)) r32
      have h2 : r32.length = 32 := by decide
      unfold addr; omega
    rw [List.length_map]; omega) (fun d hd => ?_)]
  obtain ⟨i, hi, rfl⟩ := List.mem_map.mp hd
  have h32 : i ∈ r32 := addr_sub hi
  have e3 := q4 i h32
  rw [lcStep_eq]
  simp -implicitDefEqProofs [cmpP, e3, wipeF, selN]
  cases isIn i o <;> simp -implicitDefEqProofs [wipeF]
end
end KK

namespace KK
open PySem PP
def s0 : S := (.asg (.nm 1) (.call 0 (.cons (.var 0) .nil)))
def turnB : Ss := (.cons (.asg (.nm 3) (.tup (.cons (.op .sub (.cons (.callio 7 1 (.cons (.cst (.int 36)) .nil)) (.cons (.cst (.int 2)) .nil))) (.cons (.op .sub (.cons (.callio 7 1 (.cons (.cst (.int 8)) .nil)) (.cons (.cst (.int 1)) .nil))) .nil)))) (.cons (.ife (.op (.cmp .NotEq) (.cons (.call 9 (.cons (.var 3) .nil)) (.cons (.call 11 (.cons (.var 3) .nil)) .nil))) (.cons (.ret (.cst (.bool false))) .nil) .nil) (.cons (.ife (.not (.call 11 (.cons (.var 3) .nil))) (.cons (.ife (.op (.cmp .NotEq) (.cons (.err [("InvalidPrefix" , "prefix"), ("InvalidNumber" , "number")] "" [3] (.call 100006 (.cons (.var 3) .nil))) (.cons (.cst (.str "prefix")) .nil))) (.cons (.ret (.cst (.bool false))) .nil) .nil) (.cons .cont .nil)) .nil) (.cons (.asg (.nm 4) (.lc (.var 5) (.nm 5) (.via .range (.cons (.cst (.int 32)) .nil)) (.cons (.op (.cmp .Eq) (.cons (.op (.slice false true) (.cons (.call 10 (.cons (.var 5) .nil)) (.cons (.op .idx (.cons (.var 3) (.cons (.cst (.int 1)) .nil))) .nil))) (.cons (.op (.slice false true) (.cons (.call 10 (.cons (.op .idx (.cons (.var 3) (.cons (.cst (.int 0)) .nil))) .nil)) (.cons (.op .idx (.cons (.var 3) (.cons (.cst (.int 1)) .nil))) .nil))) .nil))) .nil) [5])) (.cons (.asg (.nm 6) (.callio 8 1 (.cons (.lst (.cons (.callio 12 1 .nil) (.cons (.callio 12 1 .nil) (.cons (.tup (.cons (.op .mul (.cons (.cst (.int 2)) (.cons (.callio 7 1 (.cons (.cst (.int 16)) .nil)) .nil))) (.cons (.cst (.int 4)) .nil))) .nil)))) .nil))) (.cons (.asg (.nm 7) (.lc (.var 5) (.nm 5) (.via .range (.cons (.cst (.int 32)) .nil)) (.cons (.op (.cmp .Eq) (.cons (.op (.slice false true) (.cons (.call 10 (.cons (.var 5) .nil)) (.cons (.op .idx (.cons (.var 6) (.cons (.cst (.int 1)) .nil))) .nil))) (.cons (.op (.slice false true) (.cons (.call 10 (.cons (.op .idx (.cons (.var 6) (.cons (.cst (.int 0)) .nil))) .nil)) (.cons (.op .idx (.cons (.var 6) (.cons (.cst (.int 1)) .nil))) .nil))) .nil))) .nil) [5])) (.cons (.ife (.or (.op (.cmp .NotEq) (.cons (.call 6 (.cons (.var 3) .nil)) (.cons (.var 4) .nil))) (.op (.cmp .NotEq) (.cons (.call 14 (.cons (.var 3) (.cons (.var 6) .nil))) (.cons (.op (.cmp .Eq) (.cons (.lc (.var 5) (.nm 5) (.ofE (.var 4)) (.cons (.op (.cmp .NotIn) (.cons (.var 5) (.cons (.var 7) .nil))) .nil) [5]) (.cons (.lst .nil) .nil))) .nil)))) (.cons (.ret (.cst (.bool false))) .nil) .nil) (.cons (.asg (.nm 5) (.callio 7 1 (.cons (.cst (.int 32)) .nil))) (.cons (.ife (.or (.op (.cmp .NotEq) (.cons (.call 16 (.cons (.var 5) (.cons (.var 3) .nil))) (.cons (.op (.cmp .In) (.cons (.var 5) (.cons (.var 4) .nil))) .nil))) (.op (.cmp .NotEq) (.cons (.call 16 (.cons (.var 5) (.cons (.var 6) .nil))) (.cons (.op (.cmp .In) (.cons (.var 5) (.cons (.var 7) .nil))) .nil)))) (.cons (.ret (.cst (.bool false))) .nil) .nil) .nil)))))))))
def restB : Ss := (.cons (.asg (.nm 8) (.call 6 (.cons (.tup (.cons (.cst (.int 8)) (.cons (.cst (.int 2)) .nil))) .nil))) (.cons (.ife (.or (.not (.op (.isinst .list) (.cons (.var 8) .nil))) (.op (.cmp .NotEq) (.cons (.var 8) (.cons (.op .listRange (.cons (.cst (.int 8)) (.cons (.cst (.int 16)) .nil))) .nil)))) (.cons (.ret (.cst (.bool false))) .nil) .nil) (.cons (.app 8 (.cst .none)) (.cons (.ife (.op (.cmp .NotEq) (.cons (.call 6 (.cons (.tup (.cons (.cst (.int 8)) (.cons (.cst (.int 2)) .nil))) .nil)) (.cons (.op .listRange (.cons (.cst (.int 8)) (.cons (.cst (.int 16)) .nil))) .nil))) (.cons (.ret (.cst (.bool false))) .nil) .nil) (.cons (.asg (.nm 9) (.lst (.cons (.cst .none) (.cons (.tup .nil) (.cons (.tup (.cons (.cst (.int 0)) .nil)) (.cons (.tup (.cons (.cst (.int 0)) (.cons (.cst (.int 0)) (.cons (.cst (.int 0)) .nil)))) (.cons (.lst (.cons (.cst (.int 0)) (.cons (.cst (.int 0)) .nil))) (.cons (.tup (.cons (.cst (.bool true)) (.cons (.cst (.int 5)) .nil))) (.cons (.tup (.cons (.cst (.int 0)) (.cons (.cst (.bool false)) .nil))) (.cons (.tup (.cons (.cst (.int 32)) (.cons (.cst (.int 5)) .nil))) (.cons (.tup (.cons (.op .neg (.cons (.cst (.int 1)) .nil)) (.cons (.cst (.int 5)) .nil))) (.cons (.tup (.cons (.cst (.int 1)) (.cons (.cst (.int 4)) .nil))) (.cons (.tup (.cons (.cst (.int 0)) (.cons (.cst (.int 6)) .nil))) (.cons (.tup (.cons (.cst (.str "0")) (.cons (.cst (.int 0)) .nil))) .nil)))))))))))))) (.cons (.ife (.or (.op (.cmp .NotEq) (.cons (.lc (.var 10) (.nm 10) (.ofE (.var 9)) (.cons (.op (.isC (some false) false) (.cons (.call 9 (.cons (.var 10) .nil)) .nil)) .nil) [10]) (.cons (.lst .nil) .nil))) (.or (.op (.isC (some true) false) (.cons (.call 9 (.cons (.tup (.cons (.cst (.int 0)) (.cons (.cst (.int 0)) .nil))) .nil)) .nil)) (.op (.isC (some true) false) (.cons (.call 9 (.cons (.tup (.cons (.cst (.int 31)) (.cons (.cst (.int 5)) .nil))) .nil)) .nil)))) (.cons (.ret (.cst (.bool false))) .nil) .nil) (.cons (.asg (.nm 11) (.lc (.err [("InvalidPrefix" , "prefix"), ("InvalidNumber" , "number")] "" [10] (.call 100016 (.cons (.var 10) (.cons (.cst .none) .nil)))) (.nm 10) (.ofE (.tup (.cons (.op .neg (.cons (.cst (.int 1)) .nil)) (.cons (.cst (.int 32)) (.cons (.cst .none) (.cons (.cst (.bool true)) .nil)))))) .nil [10])) (.cons (.asg (.nm 11) (.op .add (.cons (.var 11) (.cons (.lc (.err [("InvalidPrefix" , "prefix"), ("InvalidNumber" , "number")] "" [10] (.call 100016 (.cons (.cst (.int 5)) (.cons (.var 10) .nil)))) (.nm 10) (.ofE (.var 9)) .nil [10]) .nil)))) (.cons (.app 11 (.err [("InvalidPrefix" , "prefix"), ("InvalidNumber" , "number")] "" [] (.call 100014 (.cons (.tup (.cons (.cst (.int 0)) (.cons (.cst (.int 0)) .nil))) (.cons (.cst .none) .nil))))) (.cons (.asg (.nm 11) (.op .add (.cons (.var 11) (.cons (.lc (.err [("InvalidPrefix" , "prefix"), ("InvalidNumber" , "number")] "" [10] (.call 100014 (.cons (.var 10) (.cons (.tup (.cons (.cst (.int 0)) (.cons (.cst (.int 0)) .nil))) .nil)))) (.nm 10) (.ofE (.var 9)) .nil [10]) .nil)))) (.cons (.asg (.nm 11) (.op .add (.cons (.var 11) (.cons (.lc (.err [("InvalidPrefix" , "prefix"), ("InvalidNumber" , "number")] "" [10] (.call 100006 (.cons (.var 10) .nil))) (.nm 10) (.ofE (.var 9)) .nil [10]) .nil)))) (.cons (.ret (.op (.cmp .Eq) (.cons (.var 11) (.cons (.op .add (.cons (.op .mul (.cons (.lst (.cons (.cst (.str "number")) .nil)) (.cons (.cst (.int 4)) .nil))) (.cons (.op .mul (.cons (.lst (.cons (.cst (.str "prefix")) .nil)) (.cons (.cst (.int 37)) .nil))) .nil))) .nil)))) .nil))))))))))))
theorem b17_eq : b17 = .cons s0 (.cons (.for_ (.nm 2) (.via .range (.cons (.cst (.int 12)) .nil)) turnB) restB) := rfl
def Pv (fr : Fr) : Prop := ∃ a b x0 x2 x3 x4 x5 x6 x7, fr = [x0, some (.own (.list [.int a, .int b])), x2, x3, x4, x5, x6, x7, none, none, none, none] ∧ okOwn x5 = true
theorem eq_bb {x y : Bool} : cmpP .NotEq (.bool x) (.bool y) = some (!(x == y)) := by cases x <;> cases y <;> rfl
theorem roll1 {k : Nat} {m : Int} (a b : Int) (hm : 0 < m) (hm2 : m < 1073741824) : ∃ r a' b', callF dt.prog 1000000 (k + 10) 7 [.own (.list [.int a, .int b]), .val (.int m)] = .ok (.val (.int r), some (.own (.list [.int a', .int b']))) ∧ 0 ≤ r ∧ r < m := roll (k := k + 9) a b hm hm2
theorem prefA {k : Nat} (a b : Int) : ∃ p a' b', callF dt.prog 1000000 (k + 10) 12 [.own (.list [.int a, .int b])] = .ok (.val (pD p), some (.own (.list [.int a', .int b']))) ∧ p ∈ pfs := pref (k := k + 7) a b
theorem some1 {k : Nat} (a b : Int) {ds : List D} (h : ds ≠ []) (h2 : ds.length < 1073741824) : ∃ d a' b', callF dt.prog 1000000 (k + 10) 8 [.own (.list [.int a, .int b]), .val (.list ds)] = .ok (.val d, some (.own (.list [.int a', .int b']))) ∧ d ∈ ds := some_ (k := k + 8) a b h h2
theorem turn {k : Nat} {fr : Fr} (hP : Pv fr) (d : D) : ∃ g o, Res.bind (asgT false fr (.nm 2) (.val d)) (fun g1 => evSs (CC k) 1000000 false turnB g1) = .ok (g, o) ∧ (o = .nx ∨ o = .ct) ∧ Pv g := by
  obtain ⟨a, b, x0, x2, x3, x4, x5, x6, x7, rfl, h5⟩ := hP
  obtain ⟨r1, a1, b1, e1, r1a, r1b⟩ := roll1 (k := k) (m := 36) a b (by omega) (by omega)
  obtain ⟨r2, a2, b2, e2, r2a, r2b⟩ := roll1 (k := k) (m := 8) a1 b1 (by omega) (by omega)
  obtain ⟨f1, f2, f3⟩ := fA (k := k) (mem36 r1a r1b) (mem8 r2a r2b)
  have hd : Res.bind (asgT false [x0, some (.own (.list [.int a, .int b])), x2, x3, x4, x5, x6, x7, none, none, none, none] (.nm 2) (.val d)) (fun g1 => evSs (CC k) 1000000 false turnB g1) =
      evSs (CC k) 1000000 false turnB [x0, some (.own (.list [.int a, .int b])), some (.val d), x3, x4, x5, x6, x7, none, none, none, none] := rfl
  rw [hd]
  unfold turnB
  have hs : cmpP .NotEq (.str "prefix") (.str "prefix") = some false := by rfl
  cases hv : isP (r1 - 2, r2 - 1) with
  | false =>
    have f4 := f3 hv
    rw [hv] at f1 f2
    unfold pD at f1 f2 f4
    have key : evSs (CC k) 1000000 false turnB [x0, some (.own (.list [.int a, .int b])), some (.val d), x3, x4, x5, x6, x7, none, none, none, none] =
        .ok ([x0, some (.own (.list [.int a2, .int b2])), some (.val d), some (.val (.tuple [.int (r1 - 2), .int (r2 - 1)])), x4, x5, x6, x7, none, none, none, none], .ct) := by
      unfold turnB
      simp -implicitDefEqProofs [e1, e2, f1, f2, eq_bb, preF, blind, callL_two, f4, hs]
    exact ⟨_, _, key, .inr rfl, a2, b2, x0, _, _, x4, x5, x6, x7, rfl, h5⟩
  | true =>
    have hp : (r1 - 2, r2 - 1) ∈ pfs := isP_mem hv
    rw [hv] at f1 f2
    obtain ⟨p1, a3, b3, e3, hp1⟩ := prefA (k := k) a2 b2
    obtain ⟨p2, a4, b4, e4, hp2⟩ := prefA (k := k) a3 b3
    obtain ⟨r5, a5, b5, e5, r5a, r5b⟩ := roll1 (k := k) (m := 16) a4 b4 (by omega) (by omega)
    have e5m : mulOk 2 r5 = true := mul_okl (by omega)
    obtain ⟨d6, a6, b6, e6, hd6⟩ := some1 (k := k) a5 b5 (ds := [pD p1, pD p2, .tuple [.int (2 * r5), .int 4]]) (by simp) (by simp)
    have ho : ∃ o ∈ pfs, d6 = pD o := by
      simp only [List.mem_cons, List.not_mem_nil, or_false] at hd6
      rcases hd6 with h | h | h
      · exact ⟨p1, hp1, h⟩
      · exact ⟨p2, hp2, h⟩
      · refine ⟨(r5 * 2, 4), ?_, ?_⟩
        · have q := pfs_mem 4 (by omega) r5.toNat (by omega)
          rw [Int.toNat_of_nonneg r5a] at q
          exact q
        · rw [h, Int.mul_comm]; rfl
    obtain ⟨o, ho, rfl⟩ := ho
    obtain ⟨r7, a7, b7, e7, r7a, r7b⟩ := roll1 (k := k) (m := 32) a6 b6 (by omega) (by omega)
    have h32 := mem32 r7a r7b
    have g1 := fB (k := k) hp
    obtain ⟨_, _, g2, g7⟩ := fH hp
    obtain ⟨_, _, _, g8⟩ := fH ho
    have g2 : cmpP .NotEq (li (addr (r1 - 2, r2 - 1))) (li (addr (r1 - 2, r2 - 1))) = some false := by unfold cmpP; dsimp only; rw [g2]; rfl
    have g7 : cmpP .In (.int r7) (li (addr (r1 - 2, r2 - 1))) = some (isIn r7 (r1 - 2, r2 - 1)) := g7 r7 h32
    have g8 : cmpP .In (.int r7) (li (addr o)) = some (isIn r7 o) := g8 r7 h32
    have g3 := fD (k := k) hp ho
    have g4 : cmpP .Eq (.list (((addr (r1 - 2, r2 - 1)).map PyData.int).filterMap (selN o))) (.list []) = some (inside (r1 - 2, r2 - 1) o) := fI hp ho
    have g5 := fE (k := k) h32 hp
    have g6 := fE (k := k) h32 ho
    have c1 : ∀ {x0 x1 x2 x4 x6 x7 x8 x9 x10 x11}, _ := fun {x0 x1 x2 x4 x6 x7 x8 x9 x10 x11} => here3 (k := k) (x0 := x0) (x1 := x1) (x2 := x2) (x4 := x4) (x6 := x6) (x7 := x7) (x8 := x8) (x9 := x9) (x10 := x10) (x11 := x11) hp h5
    have c2 : ∀ {x0 x1 x2 x3 x4 x7 x8 x9 x10 x11}, _ := fun {x0 x1 x2 x3 x4 x7 x8 x9 x10 x11} => here6 (k := k) (x0 := x0) (x1 := x1) (x2 := x2) (x3 := x3) (x4 := x4) (x7 := x7) (x8 := x8) (x9 := x9) (x10 := x10) (x11 := x11) ho h5
    have c3 : ∀ {x0 x1 x2 x3 x6 x8 x9 x10 x11}, _ := fun {x0 x1 x2 x3 x6 x8 x9 x10 x11} => notin (k := k) (x0 := x0) (x1 := x1) (x2 := x2) (x3 := x3) (x6 := x6) (x8 := x8) (x9 := x9) (x10 := x10) (x11 := x11) hp ho h5
    have key : evSs (CC k) 1000000 false turnB [x0, some (.own (.list [.int a, .int b])), some (.val d), x3, x4, x5, x6, x7, none, none, none, none] =
        .ok ([x0, some (.own (.list [.int a7, .int b7])), some (.val d), some (.val (pD (r1 - 2, r2 - 1))), some (.val (li (addr (r1 - 2, r2 - 1)))), some (.val (.int r7)), some (.val (pD o)), some (.own (li (addr o))), none, none, none, none], .nx) := by
      have u : pD (r1 - 2, r2 - 1) = .tuple [.int (r1 - 2), .int (r2 - 1)] := rfl
      unfold turnB
      simp -implicitDefEqProofs [e1, e2, ← u, f1, f2, eq_bb, c1, e3, e4, e5, e5m, e6, c2, g1, g2, g3, c3, g4, e7, g5, g6, g7, g8, -List.filterMap_map]
    exact ⟨_, _, key, .inl rfl, a7, b7, x0, _, _, _, some (.val (.int r7)), _, _, rfl, rfl⟩
end KK

namespace KK
open PySem PP
def outB (r : Res (Fr × Out)) : Bool := match r with | .ok (_, .rt (.val (.bool true))) => true | _ => false
theorem outB_ok {r : Res (Fr × Out)} (h : outB r = true) : ∃ g, r = .ok (g, .rt (.val (.bool true))) := by
  unfold outB at h
  split at h
  · exact ⟨_, rfl⟩
  · cases h
theorem rest_ (k : Nat) (x0 x1 x2 x3 x4 x5 x6 x7 : Option SV) : outB (evSs (CC k) 1000000 false restB [x0, x1, x2, x3, x4, x5, x6, x7, none, none, none, none]) = true := by
  kernel_rfl
end KK

namespace KK
open PySem PP
theorem cup {k : Nat} (ns : List Int) (hl : ns.length ≤ 63) : ∃ A B, callF dt.prog 1000000 (k + 1) 0 [.val (.list (ns.map PyData.int))] = .ok (.own (.list [.int A, .int B]), none) := by
  have h0 : ∃ c : Int, idxS [.list (ns.map PyData.int ++ [.int 0]), .int 0] = some (.val (.int c)) := by
    cases ns with
    | nil => exact ⟨0, rfl⟩
    | cons n ns =>
      refine ⟨n, ?_⟩
      rw [w_idxl, w_ix, if_pos (by omega), if_pos (by simp only [List.length_append, List.length_map, List.length_cons, List.length_nil]; omega)]
      rfl
  obtain ⟨c, hc⟩ := h0
  have h1 : ns.length + 1 ≤ 16777216 := by omega
  rw [call_row (fn := r0.fn) rfl rfl rfl]
  generalize hA : (if c < 0 then -c else c) = A
  have e2 : mulOk A 293 = true := mul_okr (by omega)
  by_cases h : (1000000000000000000 : Int) ≤ A
  · refine ⟨A / 79, (A * 293 + 2699) % 2077503137 + 179, ?_⟩
    simp -implicitDefEqProofs [r0, b0, hc, h1, hA, e2, h, -w_idxl]
  · refine ⟨0, (A * 293 + 2699) % 2077503137 + 179, ?_⟩
    simp -implicitDefEqProofs [r0, b0, hc, h1, hA, e2, h, -w_idxl]
theorem mk12 : mkIt .range [.int 12] = some ((List.range 12).map fun (i : Nat) => .int i) := by simp [mkIt, mkRange]
theorem plain (ns : List Int) (hl : ns.length ≤ 63) : callF dt.prog 1000000 60 17 [.val (.list (ns.map PyData.int))] = .ok (.val (.bool true), none) := by
  obtain ⟨A, B, e0⟩ := cup (k := 58) ns hl
  have e0 : callF dt.prog 1000000 59 0 [.val (.list (ns.map PyData.int))] = .ok (.own (.list [.int A, .int B]), none) := e0
  rw [callF_succ, show (callL dt.prog 1000000 59).2.2 = callF dt.prog 1000000 57 from callL_two (k := 57)]
  have e9 : dt.prog[17]? = some r17.fn := rfl
  rw [e9]
  dsimp only
  rw [if_neg (by decide)]
  show runF r17.fn (CC 49) 1000000 _ = _
  have hP : Pv [some (.val (.list (ns.map PyData.int))), some (.own (.list [.int A, .int B])), none, none, none, none, none, none, none, none, none, none] := ⟨A, B, _, _, _, _, _, _, _, rfl, rfl⟩
  obtain ⟨g, e1, hg⟩ := for_inv (xs := (List.range 12).map fun (i : Nat) => PyData.int i) Pv hP fun d _ f hf => turn (k := 49) hf d
  obtain ⟨a, b, x0, x2, x3, x4, x5, x6, x7, rfl, h5⟩ := hg
  obtain ⟨g2, e2⟩ := outB_ok (rest_ 49 x0 (some (.own (.list [.int a, .int b]))) x2 x3 x4 x5 x6 x7)
  have e3 : evS (CC 49) 1000000 false s0 [some (.val (.list (ns.map PyData.int))), none, none, none, none, none, none, none, none, none, none, none] =
      .ok ([some (.val (.list (ns.map PyData.int))), some (.own (.list [.int A, .int B])), none, none, none, none, none, none, none, none, none, none], .nx) := by
    unfold s0
    simp -implicitDefEqProofs [e0]
  have e4 : evS (CC 49) 1000000 false (.for_ (.nm 2) (.via .range (.cons (.cst (.int 12)) .nil)) turnB) [some (.val (.list (ns.map PyData.int))), some (.own (.list [.int A, .int B])), none, none, none, none, none, none, none, none, none, none] =
      .ok ([x0, some (.own (.list [.int a, .int b])), x2, x3, x4, x5, x6, x7, none, none, none, none], .nx) := by
    rw [w_for]
    have e5 : evI (CC 49) false (.via .range (.cons (.cst (.int 12)) .nil)) [some (.val (.list (ns.map PyData.int))), some (.own (.list [.int A, .int B])), none, none, none, none, none, none, none, none, none, none] =
        .ok ([some (.val (.list (ns.map PyData.int))), some (.own (.list [.int A, .int B])), none, none, none, none, none, none, none, none, none, none], (List.range 12).map fun (i : Nat) => PyData.int i) := by
      simp -implicitDefEqProofs [mk12]
    rw [e5, bd_ok]
    exact e1
  have e6 : evSs (CC 49) 1000000 false b17 [some (.val (.list (ns.map PyData.int))), none, none, none, none, none, none, none, none, none, none, none] = .ok (g2, .rt (.val (.bool true))) := by
    rw [b17_eq, w_cons, e3, bd_ok, thenO_nx, w_cons, e4, bd_ok, thenO_nx]
    exact e2
  unfold runF
  rw [if_pos (show [SV.val (PyData.list (ns.map PyData.int))].length = r17.fn.np from rfl)]
  show Res.bind (evSs (CC 49) 1000000 false b17 [some (.val (.list (ns.map PyData.int))), none, none, none, none, none, none, none, none, none, none, none]) _ = _
  rw [e6]
  rfl
end KK

namespace KK
open PySem PySem.Spec PyProof.Rows PP
def names0 : List Str := ["RouteError", "InvalidNumber", "InvalidPrefix", "is_whole", "is_tuple_of", "BITS", "LAST", "WIDE", "fits_prefix", "holds", "is_within", "need_prefix", "need_whole", "is_prefix", "is_in", "is_inside", "addresses_of", "_law_cup", "_law_roll", "_law_some"]
def names1 : List Str := ["_law_holds", "_law_ends", "_law_cost", "_law_lines", "_law_with", "_law_link_down", "_law_prefix", "_law_links", "_law_nets", "_law_rule", "_law_settings", "_law_drawn", "_law_error", "_law_bits", "_law_is"]
def names : List Str := names0 ++ names1
abbrev R : PySem.W.OpenRow := PySem.W.OpenLaw.row PySem.Challenge.rw_routeproof_k00_prefixes
abbrev hk : PySem.W.Hook := He.hookX 4 [] dt.fn [] dt.tf dt.ex
def ob (s : PySem.W.SharedT) : He.AlX := He.obsX 4 [] dt.fn [] dt.tf dt.ex (HandSHeadRun.getT s)
theorem ob_eq (s : PySem.W.SharedT) : ob s = hk.obs s.abs := He.obsX_eq (HandSHeadRun.getT_eq s)
theorem run (w : World) : HandSHeadRun.RunEq R (PySem.W.view R.prog [39]) hk ob 4000 names w := by
  intro os
  kernel_rfl
end KK
open PySem PySem.W PySem.Calls PyProof.Rows
theorem PySem.Challenge.cw_routeproof_k00_prefixes_holds : PySem.Challenge.rw_routeproof_k00_prefixes.Holds := by
  w_on; o_law
  refine HandSHeadRun.head_any (r := OpenLaw.row PySem.Challenge.rw_routeproof_k00_prefixes) (q := view (OpenLaw.row PySem.Challenge.rw_routeproof_k00_prefixes).prog [39]) (H := KK.hk) (ob := KK.ob) (M := 4000) (loose := KK.names) (d := HandSHeadRun.topDef (OpenLaw.row PySem.Challenge.rw_routeproof_k00_prefixes).prog 39) (kwd := []) KK.ob_eq
    (by kernel_rfl) (fun s => by kernel_rfl) KK.run (by kernel_rfl) (by kernel_rfl) (by kernel_rfl) (by rfl) (by first | assumption | decide +kernel) (by decide +kernel) ⟨rfl, rfl, rfl, rfl, rfl, by decide +kernel⟩ ?hw ?hc
  case hw => w_witness2
  case hc =>
    refine LamX.walk_ofTsE (l := PySem.Challenge.rw_routeproof_k00_prefixes) (n := 63) (k := 60) (x := "script") (CX := fun w => L2.CX PySem.Challenge.rw_routeproof_k00_prefixes.prog w) rfl (by decide) (by kernel_rfl) ⟨rfl, by decide, by decide⟩ ?F (fun w H s e s2 h => by
      obtain ⟨_, _, _, _, _, _, _, _, _, _, _, _, z⟩ := h; exact z.elim)
    intro w mg fa h Y G hmg0
    have hmg : mg ("law" : PySem.Str) = some (.ref fa) := by
      have e : (HandSHeadRun.topDef (OpenLaw.row PySem.Challenge.rw_routeproof_k00_prefixes).prog 39).name = ("law" : PySem.Str) := by kernel_rfl
      rw [← e]
      exact hmg0
    exact PP.law_at (jl := 17) (rl := KK.r17) (wf := 1000000) KK.rows KK.ers rfl rfl rfl (fun ns hl hb => KK.plain ns hl) Y G hmg
